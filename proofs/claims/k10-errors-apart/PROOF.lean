import PyProof.Rows.All
import Wide.All
import OpenK.AllK
import Wide.FinOn
import HandS.ForMost
import HandS.ForExc
import HandS.Flow
import HandS.IsInst
import HandS.TupAny
import HandS.TupSets
import HandS.WideBits
import HandS.Wide
import HandS.Deep
import HandS.SortOrd
import HandS.SortInts
import HandS.NamedTupSort
import HandS.SetFor
import HandS.Strs
import HandS.Lambda
import HandS.OwnEq
import HandS.EndTab
import KE.KNestM
import HandS.HotCalls
import HandS.ExcIs
import HandS.ExcCtx
import HandS.Style
import HandS.Iter
import HandS.Conv
import HandS.TupMul
import KE.GoesMore
import KE.DataMinMax
import HandS.ExcValue
import HandS.Text
import HandS.ReplaceLit
import KE.KxIndex
import PyProof.StrLawsReplace
import PySem.Challenge.RW_pickcones_k10_errors_apart
set_option Elab.async false
set_option linter.all false
set_option maxRecDepth 100000
set_option maxHeartbeats 4000000
/-! Layer A: data by value over the abstract heap; what an expression of the text evaluates to. -/
namespace G9
open PySem L2

/-- a value, tuples and (readable) lists opened; any other thing by its address -/
inductive D where
  | non | bl (b : Bool) | int (i : Int) | str (x : Str) | tup (ds : List D) | lst (ds : List D) | ref (a : Addr) | ty (n : String)

mutual
inductive Rp (K : PySem.W.Frag) (H : Hp) : V → D → Prop
  | non : Rp K H .non .non
  | bl (b : Bool) : Rp K H (.bl b) (.bl b)
  | int (i : Int) : Rp K H (.int i) (.int i)
  | str (x : Str) : Rp K H (.str x) (.str x)
  | ty (n : String) : Rp K H (.ty n) (.ty n)
  | ref (a : Addr) : Rp K H (.ref a) (.ref a)
  | tup {a : Addr} {xs : List V} {ds : List D} : SqT K H a xs → RpL K H xs ds → Rp K H (.ref a) (.tup ds)
  | lst {a : Addr} {xs : List V} {ds : List D} : H a = some (.lst xs) → RpL K H xs ds → Rp K H (.ref a) (.lst ds)
inductive RpL (K : PySem.W.Frag) (H : Hp) : List V → List D → Prop
  | nil : RpL K H [] []
  | cons {v : V} {vs : List V} {d : D} {ds : List D} : Rp K H v d → RpL K H vs ds → RpL K H (v :: vs) (d :: ds)
end

theorem Same.sqT {K : PySem.W.Frag} {H H' : Hp} {a : Addr} {xs : List V} (e : Same H H') (h : SqT K H a xs) : SqT K H' a xs := by
  rcases h with (h | ⟨o, h⟩) | h
  · exact .inl (.inl (e _ _ h))
  · exact .inl (.inr ⟨o, e _ _ h⟩)
  · exact .inr h
theorem Same.new {H : Hp} {p : Addr} {o : HO} (h : H p = none) : Same H (upd H p o) := fun a u e => by
  rw [upd_ne (ne_of_none e h)]
  exact e
theorem Same.mut {H H' : Hp} {p : Addr} {o : HO} (e : Same H H') (h : H p = none) : Same H (upd H' p o) := fun a u ha => by
  rw [upd_ne (ne_of_none ha h)]
  exact e a u ha

mutual
theorem Rp.mono {K : PySem.W.Frag} {H H' : Hp} (e : Same H H') : ∀ (d : D) (v : V), Rp K H v d → Rp K H' v d
  | .non, _, .non => .non
  | .bl b, _, .bl _ => .bl b
  | .int b, _, .int _ => .int b
  | .str b, _, .str _ => .str b
  | .ty b, _, .ty _ => .ty b
  | .ref b, _, .ref _ => .ref b
  | .tup ds, _, .tup h r => .tup (Same.sqT e h) (RpL.mono e ds _ r)
  | .lst ds, _, .lst h r => .lst (e _ _ h) (RpL.mono e ds _ r)
theorem RpL.mono {K : PySem.W.Frag} {H H' : Hp} (e : Same H H') : ∀ (ds : List D) (vs : List V), RpL K H vs ds → RpL K H' vs ds
  | [], _, .nil => .nil
  | d :: ds, _, .cons h r => .cons (Rp.mono e d _ h) (RpL.mono e ds _ r)
end
theorem Rp.up {K : PySem.W.Frag} {H H' : Hp} {v : V} {d : D} (h : Rp K H v d) (e : Same H H') : Rp K H' v d := Rp.mono e d v h
theorem RpL.up {K : PySem.W.Frag} {H H' : Hp} {v : List V} {d : List D} (h : RpL K H v d) (e : Same H H') : RpL K H' v d := RpL.mono e d v h
theorem RpL.length {K : PySem.W.Frag} {H : Hp} : ∀ {vs : List V} {ds : List D}, RpL K H vs ds → vs.length = ds.length
  | _, _, .nil => rfl
  | _, _, .cons _ r => by rw [List.length_cons, List.length_cons, RpL.length r]
theorem RpL.get {K : PySem.W.Frag} {H : Hp} : ∀ {vs : List V} {ds : List D} {i : Nat} {d : D}, RpL K H vs ds → ds[i]? = some d → ∃ v, vs[i]? = some v ∧ Rp K H v d
  | _, _, _, _, .nil, e => by simp at e
  | _, _, 0, _, .cons r _, e => by
    simp at e
    subst e
    exact ⟨_, rfl, r⟩
  | _, _, i + 1, d, .cons _ t, e => by
    obtain ⟨u, h1, h2⟩ := RpL.get (i := i) (d := d) t (by simpa using e)
    exact ⟨u, by simpa using h1, h2⟩
theorem RpL.get' {K : PySem.W.Frag} {H : Hp} {vs : List V} {ds : List D} {i : Nat} {v : V} (h : RpL K H vs ds) (e : vs[i]? = some v) : ∃ d, ds[i]? = some d ∧ Rp K H v d := by
  have hl := h.length
  have hi : i < ds.length := by
    have := (List.getElem?_eq_some_iff.mp e).1
    omega
  obtain ⟨u, h1, h2⟩ := h.get (List.getElem?_eq_getElem hi)
  rw [e] at h1
  cases h1
  exact ⟨_, List.getElem?_eq_getElem hi, h2⟩
theorem RpL.append {K : PySem.W.Frag} {H : Hp} : ∀ {vs ws : List V} {ds es : List D}, RpL K H vs ds → RpL K H ws es → RpL K H (vs ++ ws) (ds ++ es)
  | _, _, _, _, .nil, s => s
  | _, _, _, _, .cons r t, s => .cons r (RpL.append t s)
theorem RpL.one {K : PySem.W.Frag} {H : Hp} {v : V} {d : D} (h : Rp K H v d) : RpL K H [v] [d] := .cons h .nil
theorem RpL.ints {K : PySem.W.Frag} {H : Hp} : ∀ ns : List Int, RpL K H (ns.map V.int) (ns.map D.int)
  | [] => .nil
  | n :: ns => .cons (.int n) (RpL.ints ns)
theorem RpL.ints_of {K : PySem.W.Frag} {H : Hp} : ∀ {ns : List Int} {vs : List V}, RpL K H vs (ns.map D.int) → vs = ns.map V.int
  | [], _, .nil => rfl
  | n :: ns, _, .cons (.int _) r => by rw [RpL.ints_of r, List.map_cons]
theorem RpL.bls_of {K : PySem.W.Frag} {H : Hp} : ∀ {ns : List Bool} {vs : List V}, RpL K H vs (ns.map D.bl) → vs = ns.map V.bl
  | [], _, .nil => rfl
  | n :: ns, _, .cons (.bl _) r => by rw [RpL.bls_of r, List.map_cons]
theorem RpL.strs_of {K : PySem.W.Frag} {H : Hp} : ∀ {ns : List Str} {vs : List V}, RpL K H vs (ns.map D.str) → vs = ns.map V.str
  | [], _, .nil => rfl
  | n :: ns, _, .cons (.str _) r => by rw [RpL.strs_of r, List.map_cons]
theorem Rp.int_of {K : PySem.W.Frag} {H : Hp} {v : V} {i : Int} (h : Rp K H v (.int i)) : v = .int i := by cases h; rfl
theorem Rp.bl_of {K : PySem.W.Frag} {H : Hp} {v : V} {i : Bool} (h : Rp K H v (.bl i)) : v = .bl i := by cases h; rfl
theorem Rp.str_of {K : PySem.W.Frag} {H : Hp} {v : V} {i : Str} (h : Rp K H v (.str i)) : v = .str i := by cases h; rfl
theorem Rp.non_of {K : PySem.W.Frag} {H : Hp} {v : V} (h : Rp K H v .non) : v = .non := by cases h; rfl
theorem Rp.ref_of {K : PySem.W.Frag} {H : Hp} {v : V} {a : Addr} (h : Rp K H v (.ref a)) : v = .ref a := by cases h; rfl
theorem Rp.tup_of {K : PySem.W.Frag} {H : Hp} {v : V} {ds : List D} (h : Rp K H v (.tup ds)) : ∃ a xs, v = .ref a ∧ SqT K H a xs ∧ RpL K H xs ds := by
  cases h with
  | tup h r => exact ⟨_, _, rfl, h, r⟩
theorem Rp.lst_of {K : PySem.W.Frag} {H : Hp} {v : V} {ds : List D} (h : Rp K H v (.lst ds)) : ∃ a xs, v = .ref a ∧ H a = some (.lst xs) ∧ RpL K H xs ds := by
  cases h with
  | lst h r => exact ⟨_, _, rfl, h, r⟩

/-! ### the slots -/
abbrev Ro := List (Option D)
structure En (K : PySem.W.Frag) (H : Hp) (σ : L2.St) (ρ : Ro) : Prop where
  len : σ.length = ρ.length
  at_ : ∀ (i : Nat) (d : D), ρ[i]? = some (some d) → ∃ v, σ[i]? = some (some v) ∧ Rp K H v d
theorem En.up {K : PySem.W.Frag} {H H' : Hp} {σ : L2.St} {ρ : Ro} (h : En K H σ ρ) (e : Same H H') : En K H' σ ρ := ⟨h.len, fun i d q => by
  obtain ⟨v, a, b⟩ := h.at_ i d q
  exact ⟨v, a, b.up e⟩⟩
theorem En.set {K : PySem.W.Frag} {H : Hp} {σ : L2.St} {ρ : Ro} {v : V} {d : D} (i : Nat) (h : En K H σ ρ) (r : Rp K H v d) : En K H (σ.set i (some v)) (ρ.set i (some d)) := by
  refine ⟨by rw [List.length_set, List.length_set, h.len], fun j e q => ?_⟩
  by_cases hj : i = j
  · subst hj
    have hl : i < ρ.length := by
      have := (List.getElem?_eq_some_iff.mp q).1
      rwa [List.length_set] at this
    rw [List.getElem?_set_self hl] at q
    cases q
    exact ⟨v, List.getElem?_set_self (by rw [h.len]; exact hl), r⟩
  · rw [List.getElem?_set_ne hj] at q ⊢
    exact h.at_ j e q
theorem En.unset {K : PySem.W.Frag} {H : Hp} {σ : L2.St} {ρ : Ro} (i : Nat) (h : En K H σ ρ) : En K H (σ.set i none) (ρ.set i none) := by
  refine ⟨by rw [List.length_set, List.length_set, h.len], fun j e q => ?_⟩
  by_cases hj : i = j
  · subst hj
    have hl : i < ρ.length := by
      have := (List.getElem?_eq_some_iff.mp q).1
      rwa [List.length_set] at this
    rw [List.getElem?_set_self hl] at q
    cases q
  · rw [List.getElem?_set_ne hj] at q ⊢
    exact h.at_ j e q
/-- a slot forgotten -/
theorem En.forget {K : PySem.W.Frag} {H : Hp} {σ : L2.St} {ρ ρ' : Ro} (h : En K H σ ρ) (hl : ρ'.length = ρ.length) (hs : ∀ (i : Nat) (d : D), ρ'[i]? = some (some d) → ρ[i]? = some (some d)) : En K H σ ρ' :=
  ⟨by rw [h.len, hl], fun i d q => h.at_ i d (hs i d q)⟩

/-! ### the weakest readings -/
def wE (X : Cx) (e : Expr) : TE := fun σ H Q => ∀ (pins : List (Addr × Obj)) (s : Shared), Inv X pins σ H s → wpAny (model X.prog X.w) X.A (eval e X.env) (EP X pins σ Q) X.xe s
def wT (X : Cx) (e : Expr) : TT := fun σ H Q => ∀ (pins : List (Addr × Obj)) (s : Shared), Inv X pins σ H s → wpAny (model X.prog X.w) X.A (isTrue e X.env (eval e X.env)) (TP X pins σ Q) X.xe s
def wA (X : Cx) (es : List Expr) : TA := fun σ H Q => ∀ (pos : Pos) (pins : List (Addr × Obj)) (s : Shared), Inv X pins σ H s → wpAny (model X.prog X.w) X.A (spliced (backTo pos (starEach es X.env))) (AP X pins σ Q) X.xe s
def wS (X : Cx) (st : Stmt) : TS := fun D σ H => ∀ (pins : List (Addr × Obj)) (s : Shared), Inv X pins σ H s → wpAny (model X.prog X.w) X.A (exec st X.env) (SP X pins D) X.xe s
def wB (X : Cx) (st : List Stmt) : TS := fun D σ H => ∀ (pins : List (Addr × Obj)) (s : Shared), Inv X pins σ H s → wpAny (model X.prog X.w) X.A (execs st X.env) (SP X pins D) X.xe s
section
variable {X : Cx} {e : Expr} {es : List Expr} {st : Stmt} {sts : List Stmt} {σ : L2.St} {H : Hp}
theorem pw : PE X e (wE X e) := ⟨fun pins s _ _ _ I h => h pins s I⟩
theorem ptw : PT X e (wT X e) := ⟨fun pins s _ _ _ I h => h pins s I⟩
theorem paw : PA X es (wA X es) := ⟨fun pos pins s _ _ _ I h => h pos pins s I⟩
theorem psw : PS X st (wS X st) := ⟨fun pins s _ _ _ I h => h pins s I⟩
theorem pbw : PSs X sts (wB X sts) := ⟨fun pins s _ _ _ I h => h pins s I⟩
theorem wE_of {t : TE} {Q : VK} (p : PE X e t) (h : t σ H Q) : wE X e σ H Q := fun pins s I => p.run pins s σ H Q I h
theorem wT_of {t : TT} {Q : Bool → Hp → Prop} (p : PT X e t) (h : t σ H Q) : wT X e σ H Q := fun pins s I => p.run pins s σ H Q I h
theorem wA_of {t : TA} {Q : List V → Hp → Prop} (p : PA X es t) (h : t σ H Q) : wA X es σ H Q := fun pos pins s I => p.run pos pins s σ H Q I h
theorem wS_of {t : TS} {D : Ends} (p : PS X st t) (h : t D σ H) : wS X st D σ H := fun pins s I => p.run pins s σ H D I h
theorem wB_of {t : TS} {D : Ends} (p : PSs X sts t) (h : t D σ H) : wB X sts D σ H := fun pins s I => p.run pins s σ H D I h
end

/-! ### heaps: G, the part that is leant on, of H; both grow -/
structure Fr (G H G' H' : Hp) : Prop where
  h : Same H H'
  g : Same G G'
  s : Same G' H'
  n : ∀ a, G a = none → H a ≠ none → G' a = none
abbrev Nil : Hp := fun _ => none
theorem same_nil {G : Hp} : Same Nil G := fun _ _ e => nomatch e
theorem Fr.refl {G H : Hp} (s : Same G H) : Fr G H G H := ⟨Same.refl _, Same.refl _, s, fun _ e _ => e⟩
theorem Fr.trans {G H G1 H1 G2 H2 : Hp} (a : Fr G H G1 H1) (b : Fr G1 H1 G2 H2) : Fr G H G2 H2 :=
  ⟨a.h.trans b.h, a.g.trans b.g, b.s, fun x e1 e2 => b.n x (a.n x e1 e2) fun z => by
    cases q : H x with
    | none => exact e2 q
    | some o =>
      rw [a.h x o q] at z
      cases z⟩
theorem Fr.new {G H : Hp} {p : Addr} {o : HO} (s : Same G H) (hp : H p = none) : Fr G H (upd G p o) (upd H p o) :=
  ⟨Same.new hp, Same.new (s.free hp), fun a u e => by
    by_cases ha : a = p
    · subst ha
      rw [upd_same] at e ⊢
      exact e
    · rw [upd_ne ha] at e ⊢
      exact s a u e, fun a e1 e2 => by
    have ha : a ≠ p := fun z => e2 (by rw [z]; exact hp)
    rw [upd_ne ha]
    exact e1⟩
theorem Fr.newH {G H : Hp} {p : Addr} {o : HO} (s : Same G H) (hp : H p = none) : Fr G H G (upd H p o) := ⟨Same.new hp, Same.refl _, s.trans (Same.new hp), fun _ e _ => e⟩
theorem Fr.keep {G H H' : Hp} (s : Same G H) (h : Same H H') : Fr G H G H' := ⟨h, Same.refl _, s.trans h, fun _ e _ => e⟩
/-- what G does not know stays unknown to it -/
theorem Fr.out {G H G' H' : Hp} {l : Addr} {o : HO} (f : Fr G H G' H') (h1 : G l = none) (h2 : H l = some o) : G' l = none ∧ H' l = some o := ⟨f.n l h1 (by rw [h2]; exact fun z => nomatch z), f.h l o h2⟩
/-- a thing outside G is changed -/
theorem Fr.mut {G H G' H' : Hp} {l : Addr} {o : HO} (f : Fr G H G' H') (h0 : H l = none) (h1 : G' l = none) : Fr G H G' (upd H' l o) := ⟨Same.mut f.h h0, f.g, Same.mut f.s h1, f.n⟩
/-- a thing is added to G -/
theorem Fr.add {G H G' H' : Hp} {l : Addr} {o : HO} (f : Fr G H G' H') (h0 : H l = none) (h1 : G' l = none) (h2 : H' l = some o) : Fr G H (upd G' l o) H' := ⟨f.h, f.g.trans (Same.new h1), fun a u e => by
    by_cases ha : a = l
    · subst ha
      rw [upd_same] at e
      rw [h2]
      exact e
    · rw [upd_ne ha] at e
      exact f.s a u e, fun a e1 e2 => by
    have ha : a ≠ l := fun z => e2 (by rw [z]; exact h0)
    rw [upd_ne ha]
    exact f.n a e1 e2⟩

/-! ### what evaluates to what; H0: what is leant on beside the slots -/
def Ev (X : Cx) (H0 : Hp) (ρ : Ro) (e : Expr) (d : D) : Prop := ∀ (σ : L2.St) (G H : Hp), Same H0 G → Same G H → En X.K G σ ρ → ∀ Q : VK, (∀ v G' H', Fr G H G' H' → Rp X.K G' v d → Q v H') → wE X e σ H Q
/-- to a new list -/
def EvL (X : Cx) (H0 : Hp) (ρ : Ro) (e : Expr) (ds : List D) : Prop := ∀ (σ : L2.St) (G H : Hp), Same H0 G → Same G H → En X.K G σ ρ → ∀ Q : VK, (∀ l vs G' H', Fr G H G' H' → H l = none → G' l = none → H' l = some (.lst vs) → RpL X.K G' vs ds → Q (.ref l) H') → wE X e σ H Q
def EvT (X : Cx) (H0 : Hp) (ρ : Ro) (e : Expr) (b : Bool) : Prop := ∀ (σ : L2.St) (G H : Hp), Same H0 G → Same G H → En X.K G σ ρ → ∀ Q : Bool → Hp → Prop, (∀ G' H', Fr G H G' H' → Q b H') → wT X e σ H Q
def EvA (X : Cx) (H0 : Hp) (ρ : Ro) (es : List Expr) (ds : List D) : Prop := ∀ (σ : L2.St) (G H : Hp), Same H0 G → Same G H → En X.K G σ ρ → ∀ Q : List V → Hp → Prop, (∀ vs G' H', Fr G H G' H' → RpL X.K G' vs ds → Q vs H') → wA X es σ H Q
/-- by values -/
def Rd2 (K : PySem.W.Frag) (H0 : Hp) (r : R2) (a b d : D) : Prop := ∀ (x y : V) (G H : Hp), Same H0 G → Same G H → Rp K G x a → Rp K G y b → ∀ Q : VK, (∀ v G' H', Fr G H G' H' → Rp K G' v d → Q v H') → r x y H Q
def Rd2L (K : PySem.W.Frag) (H0 : Hp) (r : R2) (a b : D) (ds : List D) : Prop := ∀ (x y : V) (G H : Hp), Same H0 G → Same G H → Rp K G x a → Rp K G y b → ∀ Q : VK, (∀ l vs G' H', Fr G H G' H' → H l = none → G' l = none → H' l = some (.lst vs) → RpL K G' vs ds → Q (.ref l) H') → r x y H Q
def Rd1 (K : PySem.W.Frag) (H0 : Hp) (r : V → Hp → VK → Prop) (a d : D) : Prop := ∀ (x : V) (G H : Hp), Same H0 G → Same G H → Rp K G x a → ∀ Q : VK, (∀ v G' H', Fr G H G' H' → Rp K G' v d → Q v H') → r x H Q
def RdC (K : PySem.W.Frag) (H0 : Hp) (r : List V → Hp → VK → Prop) (as : List D) (d : D) : Prop := ∀ (xs : List V) (G H : Hp), Same H0 G → Same G H → RpL K G xs as → ∀ Q : VK, (∀ v G' H', Fr G H G' H' → Rp K G' v d → Q v H') → r xs H Q
def RdCL (K : PySem.W.Frag) (H0 : Hp) (r : List V → Hp → VK → Prop) (as : List D) (ds : List D) : Prop := ∀ (xs : List V) (G H : Hp), Same H0 G → Same G H → RpL K G xs as → ∀ Q : VK, (∀ l vs G' H', Fr G H G' H' → H l = none → G' l = none → H' l = some (.lst vs) → RpL K G' vs ds → Q (.ref l) H') → r xs H Q
section
variable {X : Cx} {H0 H1 : Hp} {ρ : Ro} {a b c e : Expr} {es : List Expr} {da db d : D} {ds : List D} {pos p : Pos} {x : Str}
theorem Ev.up (h : Ev X H0 ρ e d) (s : Same H0 H1) : Ev X H1 ρ e d := fun σ G H sg sh en Q q => h σ G H (s.trans sg) sh en Q q
theorem EvL.up (h : EvL X H0 ρ e ds) (s : Same H0 H1) : EvL X H1 ρ e ds := fun σ G H sg sh en Q q => h σ G H (s.trans sg) sh en Q q
theorem EvT.up {k : Bool} (h : EvT X H0 ρ e k) (s : Same H0 H1) : EvT X H1 ρ e k := fun σ G H sg sh en Q q => h σ G H (s.trans sg) sh en Q q
theorem EvA.up (h : EvA X H0 ρ es ds) (s : Same H0 H1) : EvA X H1 ρ es ds := fun σ G H sg sh en Q q => h σ G H (s.trans sg) sh en Q q
theorem Ev.is {d' : D} (h : Ev X H0 ρ e d) (q : d = d') : Ev X H0 ρ e d' := q ▸ h
theorem EvL.is {d' : List D} (h : EvL X H0 ρ e ds) (q : ds = d') : EvL X H0 ρ e d' := q ▸ h
theorem EvT.is {k k' : Bool} (h : EvT X H0 ρ e k) (q : k = k') : EvT X H0 ρ e k' := q ▸ h
/-- a new list, as a value -/
theorem EvL.ev (h : EvL X H0 ρ e ds) : Ev X H0 ρ e (.lst ds) := fun σ G H sg sh en Q q => h σ G H sg sh en Q fun l vs G' H' f hl gl hl' r =>
  q _ _ _ (f.add hl gl hl') (.lst upd_same (r.up (Same.new gl)))
theorem Rd2L.ev {r : R2} (h : Rd2L X.K H0 r da db ds) : Rd2 X.K H0 r da db (.lst ds) := fun x y G H sg sh rx ry Q q => h x y G H sg sh rx ry Q fun l vs G' H' f hl gl hl' r =>
  q _ _ _ (f.add hl gl hl') (.lst upd_same (r.up (Same.new gl)))
theorem RdCL.ev {r : List V → Hp → VK → Prop} {as : List D} (h : RdCL X.K H0 r as ds) : RdC X.K H0 r as (.lst ds) := fun x G H sg sh rx Q q => h x G H sg sh rx Q fun l vs G' H' f hl gl hl' r =>
  q _ _ _ (f.add hl gl hl') (.lst upd_same (r.up (Same.new gl)))
/-- constants, names -/
theorem e_int {i : Int} {j} : Ev X H0 ρ (.Constant (.int i) j pos) (.int i) := fun σ G H _ s _ Q q => wE_of pe_int (q _ _ _ (Fr.refl s) (.int i))
theorem e_bl {i : Bool} {j} : Ev X H0 ρ (.Constant (.bool i) j pos) (.bl i) := fun σ G H _ s _ Q q => wE_of pe_bl (q _ _ _ (Fr.refl s) (.bl i))
theorem e_str {i : Str} {j} : Ev X H0 ρ (.Constant (.str i) j pos) (.str i) := fun σ G H _ s _ Q q => wE_of pe_str (q _ _ _ (Fr.refl s) (.str i))
theorem e_non {j} : Ev X H0 ρ (.Constant .none j pos) .non := fun σ G H _ s _ Q q => wE_of pe_non (q _ _ _ (Fr.refl s) .non)
theorem e_v (i : Nat) (hr : ρ[i]? = some (some d) := by rfl) (hN : X.N[i]? = some x := by rfl) (hv : Vis X.env.scope x := by first | exact Or.inl rfl | exact Or.inr (Or.inl rfl) | exact Or.inr (Or.inr rfl)) (hd : (x == ("__debug__" : Str)) = false := by decide)
    (hcd : (x == ("__classdict__" : Str)) = false := by decide) : Ev X H0 ρ (.Name x pos) d := fun σ G H _ s en Q q => by
  obtain ⟨v, h1, h2⟩ := en.at_ i d hr
  exact wE_of (pe_var hN hv hd hcd) ⟨v, h1, q _ _ _ (Fr.refl s) h2⟩
theorem e_glob {v : V} {u : Value} (hm : X.mg x = some u) (r : RelV v u) (hd : ∀ H, Rp X.K H v d) (hg : Gl X x := by rfl) (hdb : (x == ("__debug__" : Str)) = false := by decide) : Ev X H0 ρ (.Name x pos) d := fun σ G H _ s _ Q q =>
  wE_of (pe_glob hg hm r hdb) (q _ _ _ (Fr.refl s) (hd _))
theorem e_ty {n : String} (hm : X.mg x = none) (hv : bootBuiltins x = some (.type n) := by decide +kernel) (hg : Gl X x := by rfl) (hn : x ≠ "__name__" := by decide) (hdb : (x == ("__debug__" : Str)) = false := by decide) : Ev X H0 ρ (.Name x pos) (.ty n) := fun σ G H _ s _ Q q =>
  wE_of (pe_bltn (v := .ty n) hg hm hv rfl hn hdb) (q _ _ _ (Fr.refl s) (.ty n))
/-- two in a row -/
theorem two (ha : Ev X H0 ρ a da) (hb : Ev X H0 ρ b db) {σ : L2.St} {G H : Hp} (sg : Same H0 G) (sh : Same G H) (en : En X.K G σ ρ) {R : V → V → Hp → Prop} (q : ∀ x y G' H', Fr G H G' H' → Rp X.K G' x da → Rp X.K G' y db → R x y H') :
    wE X a σ H fun x H1 => wE X b σ H1 fun y H2 => R x y H2 :=
  ha σ G H sg sh en _ fun v G1 H1 f1 r1 => hb σ G1 H1 (sg.trans f1.g) f1.s (en.up f1.g) _ fun u G2 H2 f2 r2 => q v u G2 H2 (f1.trans f2) (r1.up f2.g) r2
/-- operators -/
theorem e_op {op : Operator} {r : R2} (ho : OpR X (binaryOp op) r) (ha : Ev X H0 ρ a da) (hb : Ev X H0 ρ b db) (hr : Rd2 X.K H0 r da db d) : Ev X H0 ρ (.BinOp a op b pos) d := fun σ G H sg sh en Q q =>
  wE_of (pe_op ho pw pw) (two ha hb sg sh en fun x y G1 H1 f1 r1 r2 => hr x y G1 H1 (sg.trans f1.g) f1.s r1 r2 Q fun z G3 H3 f3 r3 => q z G3 H3 (f1.trans f3) r3)
theorem l_op {op : Operator} {r : R2} (ho : OpR X (binaryOp op) r) (ha : Ev X H0 ρ a da) (hb : Ev X H0 ρ b db) (hr : Rd2L X.K H0 r da db ds) : EvL X H0 ρ (.BinOp a op b pos) ds := fun σ G H sg sh en Q q =>
  wE_of (pe_op ho pw pw) (two ha hb sg sh en fun x y G1 H1 f1 r1 r2 => hr x y G1 H1 (sg.trans f1.g) f1.s r1 r2 Q fun l vs G3 H3 f3 hl gl hl' r3 => q l vs G3 H3 (f1.trans f3) (f1.h.free hl) gl hl' r3)
theorem e_cmp {op : CmpOp} {r : R2} (ho : OpR X (compareOp op) r) (ha : Ev X H0 ρ a da) (hb : Ev X H0 ρ b db) (hr : Rd2 X.K H0 r da db d) (hm : behindInMarks op b = false := by first | exact nomark _ | rfl) : Ev X H0 ρ (.Compare a [op] [b] pos) d := fun σ G H sg sh en Q q =>
  wE_of (pe_cmpR ho pw pw hm) (two ha hb sg sh en fun x y G1 H1 f1 r1 r2 => hr x y G1 H1 (sg.trans f1.g) f1.s r1 r2 Q fun z G3 H3 f3 r3 => q z G3 H3 (f1.trans f3) r3)
theorem e_un {op : UnaryOp} {r : V → Hp → VK → Prop} (ho : UnR X (unaryOp op) r) (ha : Ev X H0 ρ a da) (hr : Rd1 X.K H0 r da d) : Ev X H0 ρ (.UnaryOp op a pos) d := fun σ G H sg sh en Q q =>
  wE_of (pe_un ho pw) (ha σ G H sg sh en _ fun v G1 H1 f1 r1 => hr v G1 H1 (sg.trans f1.g) f1.s r1 Q fun z G3 H3 f3 r3 => q z G3 H3 (f1.trans f3) r3)
theorem e_ix {r : R2} (ho : IxR X r) (ha : Ev X H0 ρ a da) (hb : Ev X H0 ρ b db) (hr : Rd2 X.K H0 r da db d) (hs : PlainIx b := by exact fun _ _ => rfl) : Ev X H0 ρ (.Subscript a b pos) d := fun σ G H sg sh en Q q =>
  wE_of (pe_ix ho pw pw hs) (two ha hb sg sh en fun x y G1 H1 f1 r1 r2 => hr x y G1 H1 (sg.trans f1.g) f1.s r1 r2 Q fun z G3 H3 f3 r3 => q z G3 H3 (f1.trans f3) r3)
theorem e_chain {op op' : CmpOp} {r r' : R2} {k : Bool} {dc : D} {k2 : Bool} (p1 : PE X (.Compare a [op, op'] [b, c] pos) (tChain r r' (wE X a) (wE X b) (wE X c))) (ha : Ev X H0 ρ a da) (hb : Ev X H0 ρ b db) (hr : Rd2 X.K H0 r da db (.bl k)) (hc : k = true → Ev X H0 ρ c dc) (hr' : k = true → Rd2 X.K H0 r' db dc (.bl k2)) :
    Ev X H0 ρ (.Compare a [op, op'] [b, c] pos) (.bl (k && k2)) := fun σ G H sg sh en Q q =>
  wE_of p1 (two ha hb sg sh en fun x y G1 H1 f1 r1 r2 => hr x y G1 H1 (sg.trans f1.g) f1.s r1 r2 _ fun z G3 H3 f3 r3 => by
    have f13 := f1.trans f3
    refine ⟨k, r3.bl_of, ?_⟩
    cases k with
    | false =>
      rw [if_neg (by decide)]
      exact q _ G3 H3 f13 (.bl _)
    | true =>
      rw [if_pos rfl]
      exact hc rfl σ G3 H3 (sg.trans f13.g) f13.s (en.up f13.g) _ fun w G4 H4 f4 r4 => hr' rfl y w G4 H4 ((sg.trans f13.g).trans f4.g) f4.s (r2.up (f3.g.trans f4.g)) r4 Q fun z G5 H5 f5 r5 => q z G5 H5 ((f13.trans f4).trans f5) r5)
/-- and, or, not as values; conditional expressions -/
theorem e_and {rest : List Expr} {k l : Bool} (ha : Ev X H0 ρ a (.bl k)) (hb : k = true → Ev X H0 ρ (.BoolOp .And (b :: rest) pos) (.bl l)) : Ev X H0 ρ (.BoolOp .And (a :: b :: rest) pos) (.bl (k && l)) := fun σ G H sg sh en Q q =>
  wE_of (pe_and pw pw) (ha σ G H sg sh en _ fun v G1 H1 f1 r1 => ⟨k, r1.bl_of, by
    cases k with
    | true =>
      rw [if_pos rfl]
      exact hb rfl σ G1 H1 (sg.trans f1.g) f1.s (en.up f1.g) Q fun z G3 H3 f3 r3 => q z G3 H3 (f1.trans f3) r3
    | false =>
      rw [if_neg (by decide)]
      exact q _ G1 H1 f1 (.bl _)⟩)
theorem e_or {rest : List Expr} {k l : Bool} (ha : Ev X H0 ρ a (.bl k)) (hb : k = false → Ev X H0 ρ (.BoolOp .Or (b :: rest) pos) (.bl l)) : Ev X H0 ρ (.BoolOp .Or (a :: b :: rest) pos) (.bl (k || l)) := fun σ G H sg sh en Q q =>
  wE_of (pe_or pw pw) (ha σ G H sg sh en _ fun v G1 H1 f1 r1 => ⟨k, r1.bl_of, by
    cases k with
    | false =>
      rw [if_neg (by decide)]
      exact hb rfl σ G1 H1 (sg.trans f1.g) f1.s (en.up f1.g) Q fun z G3 H3 f3 r3 => q z G3 H3 (f1.trans f3) r3
    | true =>
      rw [if_pos rfl]
      exact q _ G1 H1 f1 (.bl _)⟩)
theorem e_one {op : BoolOp} (ha : Ev X H0 ρ a d) : Ev X H0 ρ (.BoolOp op [a] pos) d := fun σ G H sg sh en Q q => wE_of (pe_one pw) (ha σ G H sg sh en Q q)
theorem e_not {k : Bool} (ha : Ev X H0 ρ a (.bl k)) : Ev X H0 ρ (.UnaryOp .Not a pos) (.bl (!k)) := fun σ G H sg sh en Q q =>
  wE_of (pe_not pw) (ha σ G H sg sh en _ fun v G1 H1 f1 r1 => ⟨k, r1.bl_of, q _ G1 H1 f1 (.bl _)⟩)
theorem e_if {k : Bool} (hc : EvT X H0 ρ c k) (ha : k = true → Ev X H0 ρ a d) (hb : k = false → Ev X H0 ρ b d) : Ev X H0 ρ (.IfExp c a b pos) d := fun σ G H sg sh en Q q =>
  wE_of (pe_ifExp ptw pw pw) (hc σ G H sg sh en _ fun G1 H1 f1 => by
    cases k with
    | true =>
      rw [if_pos rfl]
      exact ha rfl σ G1 H1 (sg.trans f1.g) f1.s (en.up f1.g) Q fun z G3 H3 f3 r3 => q z G3 H3 (f1.trans f3) r3
    | false =>
      rw [if_neg (by decide)]
      exact hb rfl σ G1 H1 (sg.trans f1.g) f1.s (en.up f1.g) Q fun z G3 H3 f3 r3 => q z G3 H3 (f1.trans f3) r3)
/-- argument lists, displays -/
theorem a_nil : EvA X H0 ρ [] [] := fun σ G H _ s en Q q => wA_of pa_nil (q _ _ _ (Fr.refl s) .nil)
theorem a_cons (ha : Ev X H0 ρ e d) (hr : EvA X H0 ρ es ds) (hs : starEach (e :: es) X.env = (false, eval e X.env) :: starEach es X.env := by rfl) : EvA X H0 ρ (e :: es) (d :: ds) := fun σ G H sg sh en Q q =>
  wA_of (pa_cons pw paw hs) (ha σ G H sg sh en _ fun v G1 H1 f1 r1 => hr σ G1 H1 (sg.trans f1.g) f1.s (en.up f1.g) _ fun vs G2 H2 f2 r2 => q _ G2 H2 (f1.trans f2) (.cons (r1.up f2.g) r2))
theorem e_tup {k} (h : EvA X H0 ρ es ds) (hz : ds.length ≤ 100000 := by decide) : Ev X H0 ρ (.Tuple es k pos) (.tup ds) := fun σ G H sg sh en Q q =>
  wE_of (pe_tup paw) (h σ G H sg sh en _ fun vs G1 H1 f1 r1 => ⟨by rw [r1.length]; exact Nat.le_trans hz (by decide), fun p hp => q _ _ _ (f1.trans (Fr.new f1.s hp)) (.tup (.inl (.inl upd_same)) (r1.up (Same.new (f1.s.free hp))))⟩)
theorem l_lst (h : EvA X H0 ρ es ds) (hz : ds.length ≤ 100000 := by decide) : EvL X H0 ρ (.List es pos) ds := fun σ G H sg sh en Q q =>
  wE_of (pe_lst paw) (h σ G H sg sh en _ fun vs G1 H1 f1 r1 => ⟨by rw [r1.length]; exact Nat.le_trans hz (by decide), fun p hp => q p vs G1 _ (f1.trans (Fr.newH f1.s hp)) (f1.h.free hp) (f1.s.free hp) upd_same r1⟩)
/-- built-in functions and types -/
theorem e_callB {id : String} {r : List V → Hp → VK → Prop} (hc : CallR X (.builtin id) r) (hm : X.mg x = none) (ha : EvA X H0 ρ (e :: es) ds) (hr : RdC X.K H0 r ds d) (hv : bootBuiltins x = some (.builtin id) := by decide +kernel) (hg : Gl X x := by rfl)
    (hn : x ≠ "__name__" := by decide) (hdb : (x == ("__debug__" : Str)) = false := by decide) (he : starEach (e :: es) X.env = (false, eval e X.env) :: starEach es X.env := by rfl) (hpl : (backTo pos (starEach es X.env)).any (·.1) = false := by rfl) :
    Ev X H0 ρ (.Call (.Name x p) (e :: es) [] pos) d := fun σ G H sg sh en Q q =>
  wE_of (pe_callB hc hg hm hv paw hn hdb he hpl) (ha σ G H sg sh en _ fun vs G1 H1 f1 r1 => hr vs G1 H1 (sg.trans f1.g) f1.s r1 Q fun v G2 H2 f2 r2 => q v G2 H2 (f1.trans f2) r2)
theorem l_callB {id : String} {r : List V → Hp → VK → Prop} {as : List D} (hc : CallR X (.builtin id) r) (hm : X.mg x = none) (ha : EvA X H0 ρ (e :: es) as) (hr : RdCL X.K H0 r as ds) (hv : bootBuiltins x = some (.builtin id) := by decide +kernel) (hg : Gl X x := by rfl)
    (hn : x ≠ "__name__" := by decide) (hdb : (x == ("__debug__" : Str)) = false := by decide) (he : starEach (e :: es) X.env = (false, eval e X.env) :: starEach es X.env := by rfl) (hpl : (backTo pos (starEach es X.env)).any (·.1) = false := by rfl) :
    EvL X H0 ρ (.Call (.Name x p) (e :: es) [] pos) ds := fun σ G H sg sh en Q q =>
  wE_of (pe_callB hc hg hm hv paw hn hdb he hpl) (ha σ G H sg sh en _ fun vs G1 H1 f1 r1 => hr vs G1 H1 (sg.trans f1.g) f1.s r1 Q fun l vs G3 H3 f3 hl gl hl' r3 => q l vs G3 H3 (f1.trans f3) (f1.h.free hl) gl hl' r3)
theorem e_callT {T : String} {r : List V → Hp → VK → Prop} (hc : CallR X (.type T) r) (hm : X.mg x = none) (ha : EvA X H0 ρ (e :: es) ds) (hr : RdC X.K H0 r ds d) (hv : bootBuiltins x = some (.type T) := by decide +kernel) (hg : Gl X x := by rfl)
    (hn : x ≠ "__name__" := by decide) (hdb : (x == ("__debug__" : Str)) = false := by decide) (he : starEach (e :: es) X.env = (false, eval e X.env) :: starEach es X.env := by rfl) (hpl : (backTo pos (starEach es X.env)).any (·.1) = false := by rfl) :
    Ev X H0 ρ (.Call (.Name x p) (e :: es) [] pos) d := fun σ G H sg sh en Q q =>
  wE_of (pe_callTy hc hg hm hv paw hn hdb he hpl) (ha σ G H sg sh en _ fun vs G1 H1 f1 r1 => hr vs G1 H1 (sg.trans f1.g) f1.s r1 Q fun v G2 H2 f2 r2 => q v G2 H2 (f1.trans f2) r2)
theorem l_callT {T : String} {r : List V → Hp → VK → Prop} {as : List D} (hc : CallR X (.type T) r) (hm : X.mg x = none) (ha : EvA X H0 ρ (e :: es) as) (hr : RdCL X.K H0 r as ds) (hv : bootBuiltins x = some (.type T) := by decide +kernel) (hg : Gl X x := by rfl)
    (hn : x ≠ "__name__" := by decide) (hdb : (x == ("__debug__" : Str)) = false := by decide) (he : starEach (e :: es) X.env = (false, eval e X.env) :: starEach es X.env := by rfl) (hpl : (backTo pos (starEach es X.env)).any (·.1) = false := by rfl) :
    EvL X H0 ρ (.Call (.Name x p) (e :: es) [] pos) ds := fun σ G H sg sh en Q q =>
  wE_of (pe_callTy hc hg hm hv paw hn hdb he hpl) (ha σ G H sg sh en _ fun vs G1 H1 f1 r1 => hr vs G1 H1 (sg.trans f1.g) f1.s r1 Q fun l vs G3 H3 f3 hl gl hl' r3 => q l vs G3 H3 (f1.trans f3) (f1.h.free hl) gl hl' r3)
/-- tests -/
theorem t_val {k : Bool} (h : Ev X H0 ρ e (.bl k)) (he : ∀ whole, isTrue e X.env whole = (do let v ← whole; standAt e.pos; holding [v] (truthy v)) := by intro _; rfl) : EvT X H0 ρ e k := fun σ G H sg sh en Q q =>
  wT_of (pt_val pw he) (h σ G H sg sh en _ fun v G1 H1 f1 r1 => ⟨k, r1.bl_of, q G1 H1 f1⟩)
theorem t_cmp {op : CmpOp} {r : R2} {k : Bool} (ho : OpR X (compareOp op) r) (ha : Ev X H0 ρ a da) (hb : Ev X H0 ρ b db) (hr : Rd2 X.K H0 r da db (.bl k)) (hm : behindInMarks op b = false := by first | exact nomark _ | rfl) : EvT X H0 ρ (.Compare a [op] [b] pos) k := fun σ G H sg sh en Q q =>
  wT_of (pt_cmpR ho pw pw hm) (two ha hb sg sh en fun x y G1 H1 f1 r1 r2 => hr x y G1 H1 (sg.trans f1.g) f1.s r1 r2 _ fun z G3 H3 f3 r3 => ⟨k, r3.bl_of, q G3 H3 (f1.trans f3)⟩)
theorem t_not {k : Bool} (h : EvT X H0 ρ a k) : EvT X H0 ρ (.UnaryOp .Not a pos) (!k) := fun σ G H sg sh en Q q => wT_of (pt_not ptw) (h σ G H sg sh en _ fun G1 H1 f1 => q G1 H1 f1)
end
/-- and, or as tests -/
def wW (X : Cx) (e : Expr) : TT := fun σ H Q => ∀ (whole : Sem Value) (pins : List (Addr × Obj)) (s : Shared), Inv X pins σ H s → wpAny (model X.prog X.w) X.A (isTrue e X.env whole) (TP X pins σ Q) X.xe s
theorem pww {X : Cx} {e : Expr} : PW X e (wW X e) := ⟨fun whole pins s _ _ _ I h => h whole pins s I⟩
theorem wW_of {X : Cx} {e : Expr} {σ : L2.St} {H : Hp} {t : TT} {Q : Bool → Hp → Prop} (p : PW X e t) (h : t σ H Q) : wW X e σ H Q := fun whole pins s I => p.run whole pins s σ H Q I h
def EvW (X : Cx) (H0 : Hp) (ρ : Ro) (e : Expr) (b : Bool) : Prop := ∀ (σ : L2.St) (G H : Hp), Same H0 G → Same G H → En X.K G σ ρ → ∀ Q : Bool → Hp → Prop, (∀ G' H', Fr G H G' H' → Q b H') → wW X e σ H Q
section
variable {X : Cx} {H0 H1 : Hp} {ρ : Ro} {a b c e : Expr} {es rest : List Expr} {da db d : D} {ds : List D} {pos p : Pos} {x : Str} {k l : Bool}
theorem EvW.t (h : EvW X H0 ρ e k) : EvT X H0 ρ e k := fun σ G H sg sh en Q q => wT_of (PW.pt pww) (h σ G H sg sh en Q q)
theorem w_and1 (h : EvT X H0 ρ a k) : EvW X H0 ρ (.BoolOp .And [a] pos) k := fun σ G H sg sh en Q q => wW_of (pw_and1 ptw) (h σ G H sg sh en Q q)
theorem w_or1 (h : EvT X H0 ρ a k) : EvW X H0 ρ (.BoolOp .Or [a] pos) k := fun σ G H sg sh en Q q => wW_of (pw_or1 ptw) (h σ G H sg sh en Q q)
theorem w_and (h : EvT X H0 ρ a k) (hb : k = true → EvW X H0 ρ (.BoolOp .And (b :: rest) pos) l) : EvW X H0 ρ (.BoolOp .And (a :: b :: rest) pos) (k && l) := fun σ G H sg sh en Q q =>
  wW_of (pw_and ptw pww) (h σ G H sg sh en _ fun G1 H1 f1 => by
    cases k with
    | true => exact hb rfl σ G1 H1 (sg.trans f1.g) f1.s (en.up f1.g) Q fun G3 H3 f3 => q G3 H3 (f1.trans f3)
    | false => exact q G1 H1 f1)
theorem w_or (h : EvT X H0 ρ a k) (hb : k = false → EvW X H0 ρ (.BoolOp .Or (b :: rest) pos) l) : EvW X H0 ρ (.BoolOp .Or (a :: b :: rest) pos) (k || l) := fun σ G H sg sh en Q q =>
  wW_of (pw_or ptw pww) (h σ G H sg sh en _ fun G1 H1 f1 => by
    cases k with
    | false => exact hb rfl σ G1 H1 (sg.trans f1.g) f1.s (en.up f1.g) Q fun G3 H3 f3 => q G3 H3 (f1.trans f3)
    | true => exact q G1 H1 f1)
theorem t_and2 (h : EvT X H0 ρ a k) (hb : k = true → EvT X H0 ρ b l) : EvT X H0 ρ (.BoolOp .And [a, b] pos) (k && l) := (w_and h fun q => w_and1 (hb q)).t
theorem t_or2 (h : EvT X H0 ρ a k) (hb : k = false → EvT X H0 ρ b l) : EvT X H0 ρ (.BoolOp .Or [a, b] pos) (k || l) := (w_or h fun q => w_or1 (hb q)).t
theorem t_and3 {m : Bool} (h : EvT X H0 ρ a k) (hb : k = true → EvT X H0 ρ b l) (hc : k = true → l = true → EvT X H0 ρ c m) : EvT X H0 ρ (.BoolOp .And [a, b, c] pos) (k && (l && m)) := (w_and h fun q => w_and (hb q) fun q2 => w_and1 (hc q q2)).t
theorem t_or3 {m : Bool} (h : EvT X H0 ρ a k) (hb : k = false → EvT X H0 ρ b l) (hc : k = false → l = false → EvT X H0 ρ c m) : EvT X H0 ρ (.BoolOp .Or [a, b, c] pos) (k || (l || m)) := (w_or h fun q => w_or (hb q) fun q2 => w_or1 (hc q q2)).t
end

/-! ### comprehensions -/
def wipeD (ρ : Ro) : List Nat → Ro
  | [] => ρ
  | v :: vs => (wipeD ρ vs).set v none
theorem En.wipe {K : PySem.W.Frag} {H : Hp} {σ : L2.St} {ρ : Ro} (h : En K H σ ρ) : ∀ vs : List Nat, En K H (wipe σ vs) (wipeD ρ vs)
  | [] => h
  | v :: vs => En.unset v (En.wipe h vs)
/-- a clause's tests -/
def wTs (X : Cx) (ifs : List Expr) : TT := fun σ H Q => ∀ (pins : List (Addr × Obj)) (s : Shared), Inv X pins σ H s →
    wpAny (model X.prog X.w) X.A (forIn ifs true fun c r => if r = true then do let ok ← isTrue c X.env (eval c X.env); pure (ForInStep.yield ok) else pure (ForInStep.yield r)) (TP X pins σ Q) X.xe s
def EvTs (X : Cx) (H0 : Hp) (ρ : Ro) (es : List Expr) (b : Bool) : Prop := ∀ (σ : L2.St) (G H : Hp), Same H0 G → Same G H → En X.K G σ ρ → ∀ Q : Bool → Hp → Prop, (∀ G' H', Fr G H G' H' → Q b H') → wTs X es σ H Q
theorem ts_nil {X : Cx} {H0 : Hp} {ρ : Ro} : EvTs X H0 ρ [] true := fun σ G H sg sh en Q q pins s I => pts_nil.run pins s σ H Q I (q G H (Fr.refl sh))
theorem ts_one {X : Cx} {H0 : Hp} {ρ : Ro} {c : Expr} {b : Bool} (h : EvT X H0 ρ c b) : EvTs X H0 ρ [c] b := fun σ G H sg sh en Q q pins s I => (pts_one (ptw (e := c))).run pins s σ H Q I (h σ G H sg sh en Q q)
/-- what is made of the first i items -/
def madeD {α : Type} (f : α → Bool) (g : α → D) (xs : List α) (i : Nat) : List D := ((xs.take i).filter f).map g
theorem made_len {α : Type} {f : α → Bool} {g : α → D} {xs : List α} {i : Nat} : (madeD f g xs i).length ≤ xs.length := by
  unfold madeD
  rw [List.length_map]
  have h1 := List.length_filter_le f (xs.take i)
  have h2 : (xs.take i).length ≤ xs.length := by rw [List.length_take]; omega
  omega
theorem made_yes {α : Type} {f : α → Bool} {g : α → D} {xs : List α} {i : Nat} {x : α} (h : xs[i]? = some x) (hf : f x = true) : madeD f g xs (i + 1) = madeD f g xs i ++ [g x] := by
  unfold madeD
  rw [List.take_add_one, h, Option.toList_some, List.filter_append, List.map_append]
  simp [List.filter, hf]
theorem made_no {α : Type} {f : α → Bool} {g : α → D} {xs : List α} {i : Nat} {x : α} (h : xs[i]? = some x) (hf : f x = false) : madeD f g xs (i + 1) = madeD f g xs i := by
  unfold madeD
  rw [List.take_add_one, h, Option.toList_some, List.filter_append, List.map_append]
  simp [List.filter, hf]
theorem made_all {α : Type} {f : α → Bool} {g : α → D} {xs : List α} : madeD f g xs xs.length = (xs.filter f).map g := by
  unfold madeD
  rw [List.take_length]
/-- between two turns: the new list at Dl -/
structure Cw {α : Type} (K : PySem.W.Frag) (G H : Hp) (f : α → Bool) (g : α → D) (xs : List α) (Dl : Addr) (i : Nat) (H' : Hp) : Prop where
  ex : H Dl = none ∧ ∃ (G' : Hp) (vs : List V), Fr G H G' H' ∧ G' Dl = none ∧ H' Dl = some (.lst vs) ∧ RpL K G' vs (madeD f g xs i)
theorem cw_turn {α : Type} {K : PySem.W.Frag} {te : TE} {tt : TT} {G H G1 H' : Hp} {vs : List V} {f : α → Bool} {g : α → D} {xs : List α} {Dl : Addr} {i : Nat} {x : α} {σ2 : L2.St} (hx : xs[i]? = some x) (hz : xs.length ≤ 100000)
    (h0 : H Dl = none) (f1 : Fr G H G1 H') (g1 : G1 Dl = none) (h1 : H' Dl = some (.lst vs)) (r1 : RpL K G1 vs (madeD f g xs i))
    (ht : ∀ Gg Hh, Same G1 Gg → Same Gg Hh → ∀ Q : Bool → Hp → Prop, (∀ G' H', Fr Gg Hh G' H' → Q (f x) H') → tt σ2 Hh Q) (he : f x = true → ∀ Gg Hh, Same G1 Gg → Same Gg Hh → ∀ Q : VK, (∀ v G' H', Fr Gg Hh G' H' → Rp K G' v (g x) → Q v H') → te σ2 Hh Q) :
    tt σ2 H' fun b H3 => if b = true then te σ2 H3 fun y H4 => ∃ acc, H4 Dl = some (.lst acc) ∧ acc.length < sizeLine ∧ Cw K G H f g xs Dl (i + 1) (upd H4 Dl (.lst (acc ++ [y]))) else Cw K G H f g xs Dl (i + 1) H3 := by
  refine ht G1 H' (Same.refl _) f1.s _ fun G2 H2 f2 => ?_
  obtain ⟨g2, h2⟩ := f2.out g1 h1
  cases hf : f x with
  | false =>
    rw [if_neg (by decide)]
    refine ⟨h0, G2, vs, f1.trans f2, g2, h2, ?_⟩
    rw [made_no hx hf]
    exact r1.up f2.g
  | true =>
    rw [if_pos rfl]
    refine he hf G2 H2 f2.g f2.s _ fun y G3 H3 f3 r3 => ?_
    obtain ⟨g3, h3⟩ := f3.out g2 h2
    refine ⟨vs, h3, ?_, h0, G3, vs ++ [y], Fr.mut ((f1.trans f2).trans f3) h0 g3, g3, upd_same, ?_⟩
    · rw [r1.length]
      exact Nat.lt_of_le_of_lt (Nat.le_trans made_len hz) (by decide)
    · rw [made_yes hx hf]
      exact (r1.up (f2.g.trans f3.g)).append (RpL.one r3)
section
variable {X : Cx} {H0 : Hp} {ρ : Ro} {elt iter : Expr} {ifs : List Expr} {pos pn : Pos} {t : Str} {scope : Scope} {α : Type}
/-- what a comprehension's source gives: its items -/
def EvI (X : Cx) (H0 : Hp) (ρ : Ro) (iter : Expr) (ds : List D) : Prop := ∃ wi : TI, (∀ tg, PI X tg iter wi) ∧ ∀ (σ : L2.St) (G H : Hp), Same H0 G → Same G H → En X.K G σ ρ → ∀ R : It → Hp → Prop,
  (∀ (J : It) (G1 H1 : Hp), Fr G H G1 H1 → (∀ (i : Nat) (G2 H2 : Hp), Same G1 G2 → Same G2 H2 → (ds.length ≤ i → J.stop i H2) ∧ (∀ d, ds[i]? = some d → J.go i H2 ∧ ∀ x H3, J.yld i H2 x H3 → ∃ G3, Fr G2 H2 G3 H3 ∧ Rp X.K G3 x d)) → R J H1) → wi σ H R
theorem EvI.is {ds ds' : List D} (h : EvI X H0 ρ iter ds) (e : ds = ds') : EvI X H0 ρ iter ds' := e ▸ h
theorem i_tup {ds : List D} (h : Ev X H0 ρ iter (.tup ds)) : EvI X H0 ρ iter ds := by
  refine ⟨iTup X.K (wE X iter), fun tg => pi_tup pw, fun σ G H sg sh en R q => h σ G H sg sh en _ fun v G1 H1 f1 r1 => ?_⟩
  obtain ⟨a, xs, e, hs, r⟩ := r1.tup_of
  refine ⟨a, e, ⟨xs, Same.sqT f1.s hs⟩, q _ G1 H1 f1 fun i G2 H2 s12 s2 => ⟨fun hl => ⟨xs, Same.sqT (s12.trans s2) hs, by rw [r.length]; exact hl⟩, fun d hd => ?_⟩⟩
  obtain ⟨v2, hv, rv⟩ := r.get hd
  exact ⟨⟨xs, v2, Same.sqT (s12.trans s2) hs, hv⟩, fun x H3 y => ⟨G2, by
    rw [y.1]
    exact Fr.refl s2, by
    have := y.2 xs (Same.sqT (s12.trans s2) hs)
    rw [hv] at this
    cases this
    exact rv.up s12⟩⟩
theorem i_lst {ds : List D} (h : Ev X H0 ρ iter (.lst ds)) : EvI X H0 ρ iter ds := by
  refine ⟨iList X.K (wE X iter), fun tg => pi_list pw, fun σ G H sg sh en R q => h σ G H sg sh en _ fun v G1 H1 f1 r1 => ?_⟩
  obtain ⟨a, xs, e, hs, r⟩ := r1.lst_of
  refine ⟨a, e, ⟨xs, SqL.of (f1.s _ _ hs)⟩, q _ G1 H1 f1 fun i G2 H2 s12 s2 => ⟨fun hl => ⟨xs, SqL.of ((s12.trans s2) _ _ hs), by rw [r.length]; exact hl⟩, fun d hd => ?_⟩⟩
  obtain ⟨v2, hv, rv⟩ := r.get hd
  exact ⟨⟨xs, v2, SqL.of ((s12.trans s2) _ _ hs), hv⟩, fun x H3 y => ⟨G2, by
    rw [y.1]
    exact Fr.refl s2, by
    have := y.2 xs (SqL.of ((s12.trans s2) _ _ hs))
    rw [hv] at this
    cases this
    exact rv.up s12⟩⟩
theorem i_range1 {a : Expr} {n : Int} {p : Pos} (hm : X.mg "range" = none) (h : Ev X H0 ρ a (.int n)) (hn : -1000000 ≤ n ∧ n ≤ 1000000) (hg : Gl X "range" := by rfl) (hs : starEach [a] X.env = [(false, eval a X.env)] := by rfl) (hs2 : starEach [a] X.env = (false, eval a X.env) :: starEach [] X.env := by rfl) :
    EvI X H0 ρ (.Call (.Name "range" p) [a] [] pos) ((List.range n.toNat).map fun (i : Nat) => D.int (i : Int)) := by
  refine ⟨iRng1 (wA X [a]), fun tg => pi_range1 hg hm paw hs, fun σ G H sg sh en R q => a_cons h a_nil hs2 σ G H sg sh en _ fun vs G1 H1 f1 r1 => ?_⟩
  cases r1 with
  | cons r1 r2 =>
    cases r2
    obtain rfl := r1.int_of
    refine ⟨n, rfl, by omega, by omega, q _ G1 H1 f1 fun i G2 H2 s12 s2 => ⟨fun hl => ?_, fun d hd => ?_⟩⟩
    · rw [List.length_map, List.length_range] at hl
      exact hl
    · rw [List.getElem?_map] at hd
      by_cases hi : i < n.toNat
      · rw [List.getElem?_range hi] at hd
        cases hd
        refine ⟨hi, fun x H3 y => ⟨G2, by rw [y.1]; exact Fr.refl s2, ?_⟩⟩
        rw [y.2, Int.zero_add]
        exact .int _
      · rw [List.getElem?_eq_none (by rw [List.length_range]; omega)] at hd
        cases hd
def bT (X : Cx) (scope : Scope) (ifs : List Expr) : TT := fun σ H Q => ∀ (s : Shared) (H' : Hp) (C : Addr) (cl : List (Str × Addr)) (fp : List Addr), wTs (X.blk s H' scope (compEnvC scope cl C X.env) fp) ifs σ H Q
def bE (X : Cx) (scope : Scope) (elt : Expr) : TE := fun σ H Q => ∀ (s : Shared) (H' : Hp) (C : Addr) (cl : List (Str × Addr)) (fp : List Addr), wE (X.blk s H' scope (compEnvC scope cl C X.env) fp) elt σ H Q
/-- the reading of a comprehension, for both of its rules -/
def EvC (X : Cx) (H0 : Hp) (ρ : Ro) (elt iter : Expr) (ifs : List Expr) (scope : Scope) (j : Nat) (ds : List D) : Prop := ∃ wi : TI, (∀ tg, PI X tg iter wi) ∧ ∀ (σ : L2.St) (G H : Hp), Same H0 G → Same G H → En X.K G σ ρ →
  ∀ Q : VK, (∀ l vs G' H', Fr G H G' H' → H l = none → G' l = none → H' l = some (.lst vs) → RpL X.K G' vs ds → Q (.ref l) H') → tLc wi (gName j) (bT X scope ifs) (bE X scope elt) [j] σ H Q
def SrcW (X : Cx) (H0 : Hp) (ρ : Ro) (wi : TI) (ds : List D) : Prop := ∀ (σ : L2.St) (G H : Hp), Same H0 G → Same G H → En X.K G σ ρ → ∀ R : It → Hp → Prop,
  (∀ (J : It) (G1 H1 : Hp), Fr G H G1 H1 → (∀ (i : Nat) (G2 H2 : Hp), Same G1 G2 → Same G2 H2 → (ds.length ≤ i → J.stop i H2) ∧ (∀ d, ds[i]? = some d → J.go i H2 ∧ ∀ x H3, J.yld i H2 x H3 → ∃ G3, Fr G2 H2 G3 H3 ∧ Rp X.K G3 x d)) → R J H1) → wi σ H R
def CmpW (X : Cx) (H0 : Hp) (ρ : Ro) (wi : TI) (elt : Expr) (ifs : List Expr) (scope : Scope) (j : Nat) (ds : List D) : Prop := ∀ (σ : L2.St) (G H : Hp), Same H0 G → Same G H → En X.K G σ ρ →
  ∀ Q : VK, (∀ l vs G' H', Fr G H G' H' → H l = none → G' l = none → H' l = some (.lst vs) → RpL X.K G' vs ds → Q (.ref l) H') → tLc wi (gName j) (bT X scope ifs) (bE X scope elt) [j] σ H Q
theorem c_core {wi : TI} (enc : α → D) (xs : List α) (f : α → Bool) (g : α → D) (j : Nat) (hw : SrcW X H0 ρ wi (xs.map enc)) (hz : xs.length ≤ 100000)
    (ht : ∀ x ∈ xs, ∀ (s : Shared) (H : Hp) (C : Addr) (cl : List (Str × Addr)) (fp : List Addr), EvTs (X.blk s H scope (compEnvC scope cl C X.env) fp) H0 ((wipeD ρ [j]).set j (some (enc x))) ifs (f x))
    (he : ∀ x ∈ xs, f x = true → ∀ (s : Shared) (H : Hp) (C : Addr) (cl : List (Str × Addr)) (fp : List Addr), Ev (X.blk s H scope (compEnvC scope cl C X.env) fp) H0 ((wipeD ρ [j]).set j (some (enc x))) elt (g x)) :
    CmpW X H0 ρ wi elt ifs scope j ((xs.filter f).map g) := by
  intro σ G H sg sh en Q q
  refine hw σ G H sg sh en _ fun J G1 H1 f1 hJ Dl hD => ?_
  refine ⟨fun i m H' => m = xs.length - i ∧ i ≤ xs.length ∧ Cw X.K G1 H1 f g xs Dl i H', ⟨xs.length, by simp, Nat.zero_le _, hD, G1, [], Fr.newH f1.s hD, f1.s.free hD, upd_same, .nil⟩, ?_⟩
  rintro i m H' ⟨rfl, hi, p⟩
  obtain ⟨_, G2, vs, f2, g2, h2, r2⟩ := id p.ex
  obtain ⟨k1, k2⟩ := hJ i G2 H' f2.g f2.s
  by_cases hlt : i < xs.length
  · have hx : xs[i]? = some xs[i] := List.getElem?_eq_getElem hlt
    have hmem : xs[i] ∈ xs := List.getElem_mem hlt
    obtain ⟨go, yl⟩ := k2 (enc xs[i]) (by rw [List.getElem?_map, hx]; rfl)
    refine .inr ⟨go, fun H'' => Cw X.K G1 H1 f g xs Dl (i + 1) H'', fun H'' p' => ⟨xs.length - (i + 1), by omega, rfl, hlt, p'⟩, fun x H3 y => ?_⟩
    obtain ⟨G3, f3, rx⟩ := yl x H3 y
    have hw2 : wipe ((wipe σ [j]).set j (some x)) [j] = wipe σ [j] := by
      show ((σ.set j none).set j (some x)).set j none = σ.set j none
      rw [List.set_set, List.set_set]
    have en2 : ∀ Gg, Same G3 Gg → En X.K Gg ((wipe σ [j]).set j (some x)) ((wipeD ρ [j]).set j (some (enc xs[i]))) := fun Gg s => ((en.up (((f1.g.trans f2.g).trans f3.g).trans s)).wipe [j]).set j (rx.up s)
    obtain ⟨g3, h3⟩ := f3.out g2 h2
    have sg3 := sg.trans ((f1.g.trans f2.g).trans f3.g)
    exact ⟨hw2, cw_turn (tt := bT X scope ifs) (te := bE X scope elt) (σ2 := (wipe σ [j]).set j (some x)) hx hz hD (f2.trans f3) g3 h3 (r2.up f3.g) (fun Gg Hh s1 s2 Q qq s H C cl fp => ht _ hmem s H C cl fp _ Gg Hh (sg3.trans s1) s2 (en2 Gg s1) Q qq)
      (fun hf Gg Hh s1 s2 Q qq s H C cl fp => he _ hmem hf s H C cl fp _ Gg Hh (sg3.trans s1) s2 (en2 Gg s1) Q qq)⟩
  · have e : i = xs.length := by omega
    subst e
    refine .inl ⟨k1 (by rw [List.length_map]; exact Nat.le_refl _), q Dl vs G2 H' (f1.trans f2) (f1.h.free hD) g2 h2 ?_⟩
    rw [← made_all]
    exact r2
theorem c_of (enc : α → D) (xs : List α) (f : α → Bool) (g : α → D) (j : Nat) (hsrc : EvI X H0 ρ iter (xs.map enc)) (hz : xs.length ≤ 100000)
    (ht : ∀ x ∈ xs, ∀ (s : Shared) (H : Hp) (C : Addr) (cl : List (Str × Addr)) (fp : List Addr), EvTs (X.blk s H scope (compEnvC scope cl C X.env) fp) H0 ((wipeD ρ [j]).set j (some (enc x))) ifs (f x))
    (he : ∀ x ∈ xs, f x = true → ∀ (s : Shared) (H : Hp) (C : Addr) (cl : List (Str × Addr)) (fp : List Addr), Ev (X.blk s H scope (compEnvC scope cl C X.env) fp) H0 ((wipeD ρ [j]).set j (some (enc x))) elt (g x)) :
    EvC X H0 ρ elt iter ifs scope j ((xs.filter f).map g) := by
  obtain ⟨wi, hpi, hw⟩ := hsrc
  exact ⟨wi, hpi, c_core enc xs f g j hw hz ht he⟩
theorem src_lst {ds : List D} (h : Ev X H0 ρ iter (.lst ds)) : SrcW X H0 ρ (iList X.K (wE X iter)) ds := by
  refine fun σ G H sg sh en R q => h σ G H sg sh en _ fun v G1 H1 f1 r1 => ?_
  obtain ⟨a, xs, e, hs, r⟩ := r1.lst_of
  refine ⟨a, e, ⟨xs, SqL.of (f1.s _ _ hs)⟩, q _ G1 H1 f1 fun i G2 H2 s12 s2 => ⟨fun hl => ⟨xs, SqL.of ((s12.trans s2) _ _ hs), by rw [r.length]; exact hl⟩, fun d hd => ?_⟩⟩
  obtain ⟨v2, hv, rv⟩ := r.get hd
  exact ⟨⟨xs, v2, SqL.of ((s12.trans s2) _ _ hs), hv⟩, fun x H3 y => ⟨G2, by
    rw [y.1]
    exact Fr.refl s2, by
    have := y.2 xs (SqL.of ((s12.trans s2) _ _ hs))
    rw [hv] at this
    cases this
    exact rv.up s12⟩⟩
/-- [elt for t in iter if ..] -/
theorem l_lc {ds : List D} (j : Nat) (h : EvC X H0 ρ elt iter ifs scope j ds) (hN : X.N.Nodup := by assumption)
    (hg : ∀ (s : Shared) (H : Hp) (C : Addr) (cl : List (Str × Addr)) (fp : List Addr), PG (X.blk s H scope (compEnvC scope cl C X.env) fp) (.Name t pn) (gName j) := by first | exact fun _ _ _ _ _ => pg_name (by assumption) rfl (Or.inl rfl) | exact fun _ _ _ _ _ => pg_name (by assumption) rfl (Or.inr rfl))
    (ok : BlkOk X.N X.env.scope scope [(t, j)] := by exact blkOk_by (by first | kernel_rfl | rfl)) (hc : X.calm = true := by rfl) (hs : ∀ x, foldedSetIterable iter X.env x = pure x := by intro _; rfl) :
    EvL X H0 ρ (.ListComp elt [⟨.Name t pn, iter, ifs, 0⟩] scope pos) ds := by
  obtain ⟨wi, hpi, hw⟩ := h
  intro σ G H sg sh en Q q
  exact wE_of (pe_lc (tt := bT X scope ifs) (te := bE X scope elt) (own := [(t, j)]) hc hN (hpi _) ok hg (fun s H C cl fp => ⟨fun pins s1 σ1 H1 Q1 I h => h s H C cl fp pins s1 I⟩) (fun s H C cl fp => ⟨fun pins s1 σ1 H1 Q1 I h => h s H C cl fp pins s1 I⟩) hs) (hw σ G H sg sh en Q q)
end
end G9

/-! Layer B: operations by data; statements; promises. -/
namespace G9
open PySem L2

/-! ### data for == -/
mutual
def D.py : D → PyData
  | .non => .none
  | .bl b => .bool b
  | .int i => .int i
  | .str x => .str x
  | .tup ds => .tuple (D.pyL ds)
  | .lst ds => .list (D.pyL ds)
  | .ref _ => .none
  | .ty _ => .none
def D.pyL : List D → List PyData
  | [] => []
  | d :: ds => D.py d :: D.pyL ds
end
/-- plain data, at most n deep -/
inductive Sh : Nat → D → Prop
  | non {n : Nat} : Sh n .non
  | bl {n : Nat} (b : Bool) : Sh n (.bl b)
  | int {n : Nat} (i : Int) : Sh n (.int i)
  | str {n : Nat} (x : Str) (h : PyData.strOk x = true) : Sh n (.str x)
  | tup {n : Nat} {ds : List D} (h : ∀ d ∈ ds, Sh n d) : Sh (n + 1) (.tup ds)
  | lst {n : Nat} {ds : List D} (h : ∀ d ∈ ds, Sh n d) : Sh (n + 1) (.lst ds)
theorem Sh.mono {n : Nat} {d : D} (h : Sh n d) : ∀ {m : Nat}, n ≤ m → Sh m d := by
  induction h with
  | non => intro m _; exact .non
  | bl b => intro m _; exact .bl b
  | int b => intro m _; exact .int b
  | str b h => intro m _; exact .str b h
  | tup h ih =>
    intro m hm
    obtain ⟨k, rfl⟩ : ∃ k, m = k + 1 := ⟨m - 1, by omega⟩
    exact .tup fun d hd => ih d hd (by omega)
  | lst h ih =>
    intro m hm
    obtain ⟨k, rfl⟩ : ∃ k, m = k + 1 := ⟨m - 1, by omega⟩
    exact .lst fun d hd => ih d hd (by omega)
theorem depthAll_le {n : Nat} : ∀ {ds : List D}, (∀ d ∈ ds, d.py.depth ≤ n) → PyData.depthAll (D.pyL ds) ≤ n
  | [], _ => by simp [D.pyL, PyData.depthAll]
  | d :: ds, h => by
    rw [D.pyL, PyData.depthAll]
    have h1 := h d List.mem_cons_self
    have h2 := depthAll_le (ds := ds) fun x hx => h x (List.mem_cons_of_mem _ hx)
    omega
theorem canAll_of : ∀ {ds : List D}, (∀ d ∈ ds, d.py.canLay0 = true) → PyData.canLayAll0 (D.pyL ds) = true
  | [], _ => by simp [D.pyL, PyData.canLayAll0]
  | d :: ds, h => by
    rw [D.pyL, PyData.canLayAll0, h d List.mem_cons_self, canAll_of (ds := ds) fun x hx => h x (List.mem_cons_of_mem _ hx)]
    rfl
theorem Sh.depth {n : Nat} {d : D} (h : Sh n d) : d.py.depth ≤ n ∧ d.py.canLay0 = true := by
  induction h with
  | non => exact ⟨by simp [D.py, PyData.depth], by simp [D.py, PyData.canLay0]⟩
  | bl b => exact ⟨by simp [D.py, PyData.depth], by simp [D.py, PyData.canLay0]⟩
  | int b => exact ⟨by simp [D.py, PyData.depth], by simp [D.py, PyData.canLay0]⟩
  | str b h => exact ⟨by simp [D.py, PyData.depth], by simp [D.py, PyData.canLay0, h]⟩
  | tup h ih => exact ⟨by rw [D.py, PyData.depth]; have := depthAll_le fun d hd => (ih d hd).1; omega, by rw [D.py, PyData.canLay0]; exact canAll_of fun d hd => (ih d hd).2⟩
  | lst h ih => exact ⟨by rw [D.py, PyData.depth]; have := depthAll_le fun d hd => (ih d hd).1; omega, by rw [D.py, PyData.canLay0]; exact canAll_of fun d hd => (ih d hd).2⟩
theorem Sh.shaped {n : Nat} {d : D} (h : Sh n d) (hn : n ≤ 64 := by decide) : SeqAt.shaped d.py = true := by
  unfold SeqAt.shaped
  rw [h.depth.2, decide_eq_true (Nat.le_trans h.depth.1 hn)]
  rfl
theorem rpL_dp {K : PySem.W.Frag} {H : Hp} : ∀ {ds : List D} {vs : List V}, RpL K H vs ds → (∀ d ∈ ds, ∀ v, Rp K H v d → Dp K H v d.py) → DpAll K H vs (D.pyL ds)
  | [], _, .nil, _ => .nil
  | d :: ds, _, .cons r t, h => .cons (h d List.mem_cons_self _ r) (rpL_dp t fun x hx => h x (List.mem_cons_of_mem _ hx))
theorem Sh.dp {K : PySem.W.Frag} {H : Hp} {n : Nat} {d : D} (h : Sh n d) : ∀ {v : V}, Rp K H v d → Dp K H v d.py := by
  induction h with
  | non => intro v r; cases r; exact .non
  | bl b => intro v r; cases r; exact .bl b
  | int b => intro v r; cases r; exact .int b
  | str b h => intro v r; cases r; exact .str b
  | tup h ih =>
    intro v r
    obtain ⟨a, xs, rfl, hs, rl⟩ := r.tup_of
    rw [D.py]
    exact .tup hs (rpL_dp rl fun d hd v r => ih d hd r)
  | lst h ih =>
    intro v r
    obtain ⟨a, xs, rfl, hs, rl⟩ := r.lst_of
    rw [D.py]
    exact .lst (SqL.of hs) (rpL_dp rl fun d hd v r => ih d hd r)
/-- .. of fewer than 64 items each -/
inductive Sm : Nat → D → Prop
  | non {n : Nat} : Sm n .non
  | bl {n : Nat} (b : Bool) : Sm n (.bl b)
  | int {n : Nat} (i : Int) : Sm n (.int i)
  | str {n : Nat} (x : Str) (h : PyData.strOk x = true) : Sm n (.str x)
  | tup {n : Nat} {ds : List D} (hl : ds.length < 64) (h : ∀ d ∈ ds, Sm n d) : Sm (n + 1) (.tup ds)
  | lst {n : Nat} {ds : List D} (hl : ds.length < 64) (h : ∀ d ∈ ds, Sm n d) : Sm (n + 1) (.lst ds)
theorem Sm.sh {n : Nat} {d : D} (h : Sm n d) : Sh n d := by
  induction h with
  | non => exact .non
  | bl b => exact .bl b
  | int b => exact .int b
  | str b h => exact .str b h
  | tup hl h ih => exact .tup ih
  | lst hl h ih => exact .lst ih
theorem Sm.tup_inv {n : Nat} {ds : List D} (h : Sm n (.tup ds)) : ∃ m, n = m + 1 ∧ ds.length < 64 ∧ ∀ d ∈ ds, Sm m d := by
  cases h with
  | tup hl h => exact ⟨_, rfl, hl, h⟩
def D.eqv (a b : D) : Bool := PyData.eqv a.py b.py

section
variable {K : PySem.W.Frag} {H0 : Hp}
/-! ### operators -/
theorem rd_i {g : Int → Int → Int} {i j : Int} : Rd2 K H0 (rI0 fun i j => .int (g i j)) (.int i) (.int j) (.int (g i j)) := fun x y G H _ s rx ry Q q => ⟨i, j, rx.int_of, ry.int_of, q _ _ _ (Fr.refl s) (.int _)⟩
theorem rd_b {g : Int → Int → Bool} {i j : Int} : Rd2 K H0 (rI0 fun i j => .bl (g i j)) (.int i) (.int j) (.bl (g i j)) := fun x y G H _ s rx ry Q q => ⟨i, j, rx.int_of, ry.int_of, q _ _ _ (Fr.refl s) (.bl _)⟩
theorem rd_ic {C : Int → Int → Prop} {g : Int → Int → Int} {i j : Int} (h : C i j) : Rd2 K H0 (rI C fun i j => .int (g i j)) (.int i) (.int j) (.int (g i j)) := fun x y G H _ s rx ry Q q => ⟨i, j, rx.int_of, ry.int_of, h, q _ _ _ (Fr.refl s) (.int _)⟩
theorem rd_neg {i : Int} : Rd1 K H0 (rU fun i => .int (-i)) (.int i) (.int (-i)) := fun x G H _ s rx Q q => ⟨i, rx.int_of, q _ _ _ (Fr.refl s) (.int _)⟩
theorem rd_eqI {i j : Int} : Rd2 K H0 rEq (.int i) (.int j) (.bl (decide (i = j))) := fun x y G H _ s rx ry Q q => by
  cases rx.int_of
  cases ry.int_of
  refine ⟨rfl, ?_⟩
  have e : decide (V.int i = V.int j) = decide (i = j) := decide_eq_decide.mpr ⟨fun z => by cases z; rfl, fun z => by rw [z]⟩
  rw [e]
  exact q _ _ _ (Fr.refl s) (.bl _)
theorem rd_neI {i j : Int} : Rd2 K H0 rNe (.int i) (.int j) (.bl (!decide (i = j))) := fun x y G H _ s rx ry Q q => by
  cases rx.int_of
  cases ry.int_of
  refine ⟨rfl, ?_⟩
  have e : decide (V.int i = V.int j) = decide (i = j) := decide_eq_decide.mpr ⟨fun z => by cases z; rfl, fun z => by rw [z]⟩
  rw [e]
  exact q _ _ _ (Fr.refl s) (.bl _)
theorem rd_eqD {n m : Nat} {a b : D} (ha : Sh n a) (hb : Sh m b) (hn : n ≤ 64 := by decide) (hm : m ≤ 64 := by decide) : Rd2 K H0 (rEqD K) a b (.bl (a.eqv b)) := fun x y G H _ s rx ry Q q =>
  ⟨a.py, b.py, ha.dp (rx.up s), hb.dp (ry.up s), ha.shaped hn, hb.shaped hm, q _ _ _ (Fr.refl s) (.bl _)⟩
theorem rd_neD {n m : Nat} {a b : D} (ha : Sh n a) (hb : Sh m b) (hn : n ≤ 64 := by decide) (hm : m ≤ 64 := by decide) : Rd2 K H0 (rNeD K) a b (.bl (!a.eqv b)) := fun x y G H _ s rx ry Q q =>
  ⟨a.py, b.py, ha.dp (rx.up s), hb.dp (ry.up s), ha.shaped hn, hb.shaped hm, q _ _ _ (Fr.refl s) (.bl _)⟩
theorem inV_int {i : Int} : ∀ ns : List Int, inV (.int i) (ns.map V.int) = ns.contains i
  | [] => rfl
  | n :: ns => by
    have ih := inV_int (i := i) ns
    unfold inV at ih ⊢
    rw [List.map_cons, List.any_cons, ih, List.contains_cons]
    show ((n == i) || _) = ((i == n) || _)
    rw [Bool.beq_comm]
theorem flat_ints : ∀ ns : List Int, (ns.map V.int).all flatV = true
  | [] => rfl
  | n :: ns => by
    rw [List.map_cons, List.all_cons, flat_ints ns]
    rfl
/-- i in a tuple of ints -/
theorem rd_inT {i : Int} {ns : List Int} : Rd2 K H0 (rIn K false) (.int i) (.tup (ns.map D.int)) (.bl (ns.contains i)) := fun x y G H _ s rx ry Q q => by
  cases rx.int_of
  obtain ⟨a, xs, rfl, hs, r⟩ := ry.tup_of
  obtain rfl := r.ints_of
  refine ⟨a, _, rfl, .inr (Same.sqT s hs), rfl, flat_ints ns, ?_⟩
  rw [if_neg (by decide), inV_int]
  exact q _ _ _ (Fr.refl s) (.bl _)
theorem rd_ninT {i : Int} {ns : List Int} : Rd2 K H0 (rIn K true) (.int i) (.tup (ns.map D.int)) (.bl (!ns.contains i)) := fun x y G H _ s rx ry Q q => by
  cases rx.int_of
  obtain ⟨a, xs, rfl, hs, r⟩ := ry.tup_of
  obtain rfl := r.ints_of
  refine ⟨a, _, rfl, .inr (Same.sqT s hs), rfl, flat_ints ns, ?_⟩
  rw [if_pos rfl, inV_int]
  exact q _ _ _ (Fr.refl s) (.bl _)
theorem rd_inL {i : Int} {ns : List Int} : Rd2 K H0 (rIn K false) (.int i) (.lst (ns.map D.int)) (.bl (ns.contains i)) := fun x y G H _ s rx ry Q q => by
  cases rx.int_of
  obtain ⟨a, xs, rfl, hs, r⟩ := ry.lst_of
  obtain rfl := r.ints_of
  refine ⟨a, _, rfl, .inl (SqL.of (s _ _ hs)), rfl, flat_ints ns, ?_⟩
  rw [if_neg (by decide), inV_int]
  exact q _ _ _ (Fr.refl s) (.bl _)
/-- items by their place -/
theorem rp_at {vs : List V} {ds : List D} {G : Hp} {i : Int} {d : D} (r : RpL K G vs ds) (h : atI ds i = some d) : ∃ v, atI vs i = some v ∧ Rp K G v d := by
  unfold atI at h ⊢
  rw [r.length]
  cases e : ixN ds.length i with
  | none => rw [e] at h; cases h
  | some j =>
    rw [e] at h
    exact r.get h
theorem rd_ixT {ds : List D} {i : Int} {d : D} (h : atI ds i = some d) : Rd2 K H0 (rIxT K) (.tup ds) (.int i) d := fun x y G H _ s rx ry Q q => by
  cases ry.int_of
  obtain ⟨a, xs, rfl, hs, r⟩ := rx.tup_of
  obtain ⟨v, hv, rv⟩ := rp_at r h
  exact ⟨a, xs, i, v, rfl, rfl, Same.sqT s hs, hv, q _ _ _ (Fr.refl s) rv⟩
theorem rd_ixL {ds : List D} {i : Int} {d : D} (h : atI ds i = some d) : Rd2 K H0 (rIxL K) (.lst ds) (.int i) d := fun x y G H _ s rx ry Q q => by
  cases ry.int_of
  obtain ⟨a, xs, rfl, hs, r⟩ := rx.lst_of
  obtain ⟨v, hv, rv⟩ := rp_at r h
  exact ⟨a, xs, i, v, rfl, rfl, SqL.of (s _ _ hs), hv, q _ _ _ (Fr.refl s) rv⟩
/-- t + u -/
theorem rd_catT {as bs : List D} (hz : as.length + bs.length ≤ 100000) : Rd2 K H0 (rCatA K) (.tup as) (.tup bs) (.tup (as ++ bs)) := fun x y G H _ s rx ry Q q => by
  obtain ⟨a, xs, rfl, hs, r⟩ := rx.tup_of
  obtain ⟨b, ys, rfl, hs2, r2⟩ := ry.tup_of
  refine ⟨a, b, xs, ys, rfl, rfl, Same.sqT s hs, Same.sqT s hs2, by rw [r.length, r2.length]; exact Nat.le_trans hz (by decide), fun e => ?_, fun _ e => ?_, fun _ _ p hp => ?_⟩
  · subst e
    have e : as = [] := List.eq_nil_of_length_eq_zero r.length.symm
    subst e
    exact q _ _ _ (Fr.refl s) (.tup hs2 r2)
  · subst e
    have e : bs = [] := List.eq_nil_of_length_eq_zero r2.length.symm
    subst e
    rw [List.append_nil] at q
    exact q _ _ _ (Fr.refl s) (.tup hs r)
  · exact q _ _ _ (Fr.new s hp) (.tup (.inl (.inl upd_same)) ((r.append r2).up (Same.new (s.free hp))))
theorem rd_cat {as bs : List D} (hz : as.length + bs.length ≤ 100000) : Rd2L K H0 rCat (.lst as) (.lst bs) (as ++ bs) := fun x y G H _ s rx ry Q q => by
  obtain ⟨a, xs, rfl, hs, r⟩ := rx.lst_of
  obtain ⟨b, ys, rfl, hs2, r2⟩ := ry.lst_of
  exact ⟨a, b, xs, ys, rfl, rfl, s _ _ hs, s _ _ hs2, by rw [r.length, r2.length]; exact Nat.le_trans hz (by decide), fun p hp => q p _ _ _ (Fr.newH s hp) hp (s.free hp) upd_same (r.append r2)⟩
theorem rd_addS {a b : Str} (hz : a.length + b.length ≤ 100000) : Rd2 K H0 (fun x y H Q => ∃ i j, x = .str i ∧ y = .str j ∧ i.length + j.length ≤ sizeLine ∧ Q (.str (i ++ j)) H) (.str a) (.str b) (.str (a ++ b)) := fun x y G H _ s rx ry Q q =>
  ⟨a, b, rx.str_of, ry.str_of, Nat.le_trans hz (by decide), q _ _ _ (Fr.refl s) (.str _)⟩
theorem rd_isN {a : D} {k : Bool} (hk : ∀ v G, Rp K G v a → decide (v = V.non) = k) : Rd2 K H0 (fun x y H Q => y = .non ∧ Q (.bl (decide (x = .non))) H) a .non (.bl k) := fun x y G H _ s rx ry Q q => by
  refine ⟨ry.non_of, ?_⟩
  rw [hk x G rx]
  exact q _ _ _ (Fr.refl s) (.bl _)
/-! ### built-in functions -/
theorem rc_lenT {ds : List D} : RdC K H0 (fun xs H Q => ∃ p ys, xs = [.ref p] ∧ (SqL K H p ys ∨ SqT K H p ys) ∧ Q (.int ys.length) H) [.tup ds] (.int ds.length) := fun xs G H _ s r Q q => by
  cases r with
  | cons r1 r2 =>
    cases r2
    obtain ⟨a, xs, rfl, hs, r⟩ := r1.tup_of
    refine ⟨a, xs, rfl, .inr (Same.sqT s hs), ?_⟩
    rw [r.length]
    exact q _ _ _ (Fr.refl s) (.int _)
theorem rc_lenL {ds : List D} : RdC K H0 (fun xs H Q => ∃ p ys, xs = [.ref p] ∧ (SqL K H p ys ∨ SqT K H p ys) ∧ Q (.int ys.length) H) [.lst ds] (.int ds.length) := fun xs G H _ s r Q q => by
  cases r with
  | cons r1 r2 =>
    cases r2
    obtain ⟨a, xs, rfl, hs, r⟩ := r1.lst_of
    refine ⟨a, xs, rfl, .inl (SqL.of (s _ _ hs)), ?_⟩
    rw [r.length]
    exact q _ _ _ (Fr.refl s) (.int _)
theorem rc_all {bs : List Bool} : RdC K H0 (rAll K) [.lst (bs.map D.bl)] (.bl (bs.all id)) := fun xs G H _ s r Q q => by
  cases r with
  | cons r1 r2 =>
    cases r2
    obtain ⟨a, xs, rfl, hs, r⟩ := r1.lst_of
    obtain rfl := r.bls_of
    exact ⟨a, bs, rfl, SqL.of (s _ _ hs), q _ _ _ (Fr.refl s) (.bl _)⟩
theorem rc_any {bs : List Bool} : RdC K H0 (rAny K) [.lst (bs.map D.bl)] (.bl (bs.any id)) := fun xs G H _ s r Q q => by
  cases r with
  | cons r1 r2 =>
    cases r2
    obtain ⟨a, xs, rfl, hs, r⟩ := r1.lst_of
    obtain rfl := r.bls_of
    exact ⟨a, bs, rfl, SqL.of (s _ _ hs), q _ _ _ (Fr.refl s) (.bl _)⟩
theorem rc_sum {ns : List Int} : RdC K H0 (rSum K) [.lst (ns.map D.int)] (.int ns.sum) := fun xs G H _ s r Q q => by
  cases r with
  | cons r1 r2 =>
    cases r2
    obtain ⟨a, xs, rfl, hs, r⟩ := r1.lst_of
    obtain rfl := r.ints_of
    exact ⟨a, ns, rfl, SqL.of (s _ _ hs), q _ _ _ (Fr.refl s) (.int _)⟩
abbrev rListOf (K : PySem.W.Frag) : List V → Hp → VK → Prop := fun xs H Q => ∃ p ys, xs = [.ref p] ∧ (SqL K H p ys ∨ SqT K H p ys) ∧ ∀ l, H l = none → Q (.ref l) (upd H l (.lst ys))
abbrev rTupOf (K : PySem.W.Frag) : List V → Hp → VK → Prop := fun xs H Q => ∃ p ys, xs = [.ref p] ∧ ((SqL K H p ys ∧ ∀ l, H l = none → Q (.ref l) (upd H l (.tup ys))) ∨ (SqT K H p ys ∧ Q (.ref p) H))
theorem rc_listT {ds : List D} : RdCL K H0 (rListOf K) [.tup ds] ds := fun xs G H _ s r Q q => by
  cases r with
  | cons r1 r2 =>
    cases r2
    obtain ⟨a, xs, rfl, hs, r⟩ := r1.tup_of
    exact ⟨a, xs, rfl, .inr (Same.sqT s hs), fun p hp => q p _ _ _ (Fr.newH s hp) hp (s.free hp) upd_same r⟩
theorem rc_listL {ds : List D} : RdCL K H0 (rListOf K) [.lst ds] ds := fun xs G H _ s r Q q => by
  cases r with
  | cons r1 r2 =>
    cases r2
    obtain ⟨a, xs, rfl, hs, r⟩ := r1.lst_of
    exact ⟨a, xs, rfl, .inl (SqL.of (s _ _ hs)), fun p hp => q p _ _ _ (Fr.newH s hp) hp (s.free hp) upd_same r⟩
theorem rc_tupL {ds : List D} : RdC K H0 (rTupOf K) [.lst ds] (.tup ds) := fun xs G H _ s r Q q => by
  cases r with
  | cons r1 r2 =>
    cases r2
    obtain ⟨a, xs, rfl, hs, r⟩ := r1.lst_of
    exact ⟨a, xs, rfl, .inl ⟨SqL.of (s _ _ hs), fun p hp => q _ _ _ (Fr.new s hp) (.tup (.inl (.inl upd_same)) (r.up (Same.new (s.free hp))))⟩⟩
/-- isinstance -/
def D.tyS : D → Option String
  | .non => some "NoneType"
  | .bl _ => some "bool"
  | .int _ => some "int"
  | .str _ => some "str"
  | .tup _ => some "tuple"
  | .lst _ => some "list"
  | .ref _ => none
  | .ty _ => none
theorem Sm.ty {n : Nat} {d : D} (h : Sm n d) : d.tyS ≠ none := by
  cases h <;> exact fun z => nomatch z
theorem sqT_ty {H : Hp} {a : Addr} {xs : List V} (h : SqT K H a xs) : TyX K H (.ref a) (.type "tuple") := by
  rcases h with (h | ⟨o, h⟩) | h
  · exact .base (.tup h)
  · exact .fTuple h
  · obtain ⟨o, its, n, h1, h2, _⟩ := h
    exact .kTuple h1 h2
theorem rc_isi {d : D} {t n : String} {b : Bool} (ht : d.tyS = some t) (hb : kitB t n = some b) : RdC K H0 (rIsi K) [d, .ty n] (.bl b) := fun xs G H _ s r Q q => by
  cases r with
  | cons r1 r2 =>
    cases r2 with
    | cons r2 r3 =>
      cases r3
      cases r2
      refine ⟨_, _, .type t, .type n, b, rfl, .ty n, ?_, kit_ty hb, q _ _ _ (Fr.refl s) (.bl _)⟩
      cases r1 with
      | non => cases ht; exact .base .non
      | bl b => cases ht; exact .base (.bl b)
      | int b => cases ht; exact .base (.int b)
      | str b => cases ht; exact .base (.str b)
      | ty b => cases ht
      | ref b => cases ht
      | tup h _ => cases ht; exact sqT_ty (Same.sqT s h)
      | lst h _ => cases ht; exact .base (.lst (s _ _ h))
end
end G9

/-! Layer C: promises of defs, statements. -/
namespace G9
open PySem PyProof.Rows L2

/-! ### promises -/
/-- called with data ds (of which G tells) it hands back d, if R ds d -/
def spR (K : PySem.W.Frag) (R : List D → D → Prop) : Sp := fun vs H Q _ => ∃ (ds : List D) (d : D) (G : Hp), Same G H ∧ RpL K G vs ds ∧ R ds d ∧ ∀ v G' H', Fr G H G' H' → Rp K G' v d → Q v H'
structure Fn (P : Program) (w : World) (K : PySem.W.Frag) (mg : Str → Option Value) (base : Heap) (x : Str) (k : Nat) (sp : Sp) : Prop where
  ex : ∃ (f : Addr) (fd : FuncData) (ps : List Str) (CX : CXT), FnOk P w K mg base CX k f fd ps sp ∧ mg x = some (.ref f) ∧ PySem.W.keepIn K (.ref f) = true ∧ Binds K fd ps [] ∧ ∀ X : Cx, X.prog = P → X.w = w → Passes CX X E0
section
variable {X : Cx} {H0 : Hp} {ρ : Ro} {e : Expr} {es : List Expr} {d : D} {ds : List D} {pos p : Pos} {x : Str} {k : Nat} {R : List D → D → Prop}
theorem e_call (F : Fn X.prog X.w X.K X.mg X.base x k (spR X.K R)) (hr : Room k X.A) (ha : EvA X H0 ρ (e :: es) ds) (hR : R ds d) (hg : Gl X x := by rfl) (hdb : (x == ("__debug__" : Str)) = false := by decide)
    (he : starEach (e :: es) X.env = (false, eval e X.env) :: starEach es X.env := by rfl) (hpl : (backTo pos (starEach es X.env)).any (·.1) = false := by rfl) : Ev X H0 ρ (.Call (.Name x p) (e :: es) [] pos) d := fun σ G H sg sh en Q q => by
  obtain ⟨f, fd, ps, CX, F1, hm, hk, hb, hx⟩ := F.ex
  refine wE_of (pe_call F1 hr hg hm hk hb .nil (hx X rfl rfl) paw hdb he hpl) (ha σ G H sg sh en _ fun vs G1 H1 f1 r1 => ?_)
  rw [List.append_nil]
  exact ⟨ds, d, G1, f1.s, r1, hR, fun v G2 H2 f2 r2 => q v G2 H2 (f1.trans f2) r2⟩
end
def startD (N : List Str) (ds : List D) : Ro := ds.map some ++ List.replicate (N.length - ds.length) none
theorem rpL_ev {K : PySem.W.Frag} {G : Hp} : ∀ {vs : List V} {ds : List D}, RpL K G vs ds → ∀ (i : Nat) (d : D), (ds.map some)[i]? = some (some d) → ∃ v, (vs.map some)[i]? = some (some v) ∧ Rp K G v d := fun {vs ds} r i d h => by
  rw [List.getElem?_map] at h
  cases e : ds[i]? with
  | none => rw [e] at h; cases h
  | some d' =>
    rw [e] at h
    cases h
    obtain ⟨v, hv, rv⟩ := r.get e
    exact ⟨v, by rw [List.getElem?_map, hv]; rfl, rv⟩
theorem en_start {K : PySem.W.Frag} {G : Hp} {N : List Str} {vs : List V} {ds : List D} (r : RpL K G vs ds) : En K G (L2.start N vs) (startD N ds) := by
  have hl := r.length
  refine ⟨by unfold L2.start startD; simp [hl], fun i d h => ?_⟩
  unfold startD at h
  unfold L2.start
  by_cases hi : i < ds.length
  · rw [List.getElem?_append_left (by rw [List.length_map]; exact hi)] at h
    rw [List.getElem?_append_left (by rw [List.length_map, hl]; exact hi)]
    exact rpL_ev r i d h
  · rw [List.getElem?_append_right (by rw [List.length_map]; omega)] at h
    rw [List.length_map, List.getElem?_replicate] at h
    split at h <;> cases h
section
variable {P : Program} {w : World} {K : PySem.W.Frag} {mg : Str → Option Value} {base : Heap}
/-- a def that raises nothing: its body from any slots that tell the arguments -/
theorem okD {x qual : Str} {st : Stmt} {f : Addr} {fd : FuncData} {N ps : List Str} {k : Nat} {R : List D → D → Prop} (F : Fun K x qual st f fd) (S : FnScope N ps (defScope st)) (len : ∀ ds d, R ds d → ds.length = ps.length)
    (hbody : ∀ (cdv : Value) (A : Around) (outer : List Env) (s : Shared) (H G : Hp) (E : XK) (σ : L2.St) (ds : List D) (d : D) (Q : VK), Room k (A.deeper (envOfC qual (defScope st) s.heap.objs.size f cdv)) → R ds d → Same G H → En K G σ (startD N ds) →
      (∀ v G' H', Fr G H G' H' → Rp K G' v d → Q v H') → wB (cxOf CX0 P w K mg base N qual (defScope st) f cdv A outer s H E).nox (defBody st) { nx := fun _ H' => Q .non H', rt := Q } σ H) : FnOk P w K mg base CX0 (k + 1) f fd ps (spR K R) := by
  refine F.ok S (fun vs H Q E h => ?_) (fun cdv A outer s H vs Q E hr h => ?_)
  · obtain ⟨ds, d, G, _, r, hR, _⟩ := h
    rw [r.length]
    exact len ds d hR
  · obtain ⟨ds, d, G, sh, r, hR, q⟩ := h
    exact ⟨_, pbw, hbody cdv A outer s H G E (L2.start N vs) ds d Q hr hR sh (en_start r) q⟩
/-- a def with any promise, its body by the weakest reading -/
theorem okS {x qual : Str} {st : Stmt} {f : Addr} {fd : FuncData} {N ps : List Str} {k : Nat} {sp : Sp} (F : Fun K x qual st f fd) (S : FnScope N ps (defScope st)) (len : ∀ vs H Q E, sp vs H Q E → vs.length = ps.length)
    (hbody : ∀ (cdv : Value) (A : Around) (outer : List Env) (s : Shared) (H : Hp) (E : XK) (vs : List V) (Q : VK), Room k (A.deeper (envOfC qual (defScope st) s.heap.objs.size f cdv)) → sp vs H Q E →
      wB (cxOf CX0 P w K mg base N qual (defScope st) f cdv A outer s H E).nox (defBody st) { nx := fun _ H' => Q .non H', rt := Q } (L2.start N vs) H) : FnOk P w K mg base CX0 (k + 1) f fd ps sp :=
  F.ok S len fun cdv A outer s H vs Q E hr h => ⟨_, pbw, hbody cdv A outer s H E vs Q hr h⟩
theorem fn_mk {x qual : Str} {st : Stmt} {f : Addr} {fd : FuncData} {ps : List Str} {k : Nat} {sp : Sp} (F : Fun K x qual st f fd) (G : FnOk P w K mg base CX0 k f fd ps sp) (hm : mg x = some (.ref f)) (b : Binds K fd ps []) : Fn P w K mg base x k sp :=
  ⟨f, fd, ps, CX0, G, hm, F.kp, b, fun X _ _ => pass0⟩
theorem fn_mkX {x qual : Str} {st : Stmt} {f : Addr} {fd : FuncData} {ps : List Str} {k : Nat} {sp : Sp} (F : Fun K x qual st f fd) (G : FnOk P w K mg base (L2.CX P w) k f fd ps sp) (hm : mg x = some (.ref f)) (b : Binds K fd ps []) : Fn P w K mg base x k sp :=
  ⟨f, fd, ps, L2.CX P w, G, hm, F.kp, b, fun X e1 e2 => by subst e1 e2; exact passL⟩
end

/-! ### statements -/
section
variable {X : Cx} {H0 : Hp} {ρ : Ro} {e c : Expr} {es : List Expr} {d : D} {ds : List D} {pos p : Pos} {x : Str} {σ : L2.St} {G H : Hp} {rest sa sb : List Stmt} {st : Stmt} {N : Ends}
theorem wB_cons (h : wS X st { N with nx := wB X rest N } σ H) : wB X (st :: rest) N σ H := wB_of (pss_cons psw pbw) h
theorem wB_nil (h : N.nx σ H) : wB X [] N σ H := wB_of pss_nil h
/-- name = e -/
theorem s_asg (i : Nat) (h : Ev X H0 ρ e d) (sg : Same H0 G) (sh : Same G H) (en : En X.K G σ ρ) (k : ∀ σ' G' H', Fr G H G' H' → En X.K G' σ' (ρ.set i (some d)) → wB X rest N σ' H') (hN : X.N.Nodup := by assumption) (hi : X.N[i]? = some x := by rfl)
    (hx : Loc X.env.scope x := by first | exact Or.inl rfl | exact Or.inr rfl) (hs : swapsWith e (some (.Name x p)) pos.line X.env = pure false := by rfl) (hf : X.fn x = true ∨ X.env.scope.names.lookup x = some .local := by first | exact .inl rfl | exact .inr rfl | assumption) :
    wB X (.Assign [.Name x p] e pos :: rest) N σ H :=
  wB_cons (wS_of (ps_set hN hi hx pw hs hf) (h σ G H sg sh en _ fun v G1 H1 f1 r1 => k _ G1 H1 f1 ((en.up f1.g).set i r1)))
theorem s_asgX (i : Nat) (h : Ev X H0 ρ e d) (sg : Same H0 G) (sh : Same G H) (en : En X.K G σ ρ) (k : ∀ v G' H', Fr G H G' H' → Rp X.K G' v d → wB X rest N (σ.set i (some v)) H') (hN : X.N.Nodup := by assumption) (hi : X.N[i]? = some x := by rfl)
    (hx : Loc X.env.scope x := by first | exact Or.inl rfl | exact Or.inr rfl) (hs : swapsWith e (some (.Name x p)) pos.line X.env = pure false := by rfl) (hf : X.fn x = true ∨ X.env.scope.names.lookup x = some .local := by first | exact .inl rfl | exact .inr rfl | assumption) :
    wB X (.Assign [.Name x p] e pos :: rest) N σ H :=
  wB_cons (wS_of (ps_set hN hi hx pw hs hf) (h σ G H sg sh en _ fun v G1 H1 f1 r1 => k v G1 H1 f1 r1))
/-- name = a new list, kept outside of G -/
theorem s_asgL (i : Nat) (h : EvL X H0 ρ e ds) (sg : Same H0 G) (sh : Same G H) (en : En X.K G σ ρ) (k : ∀ l vs σ' G' H', Fr G H G' H' → H l = none → G' l = none → H' l = some (.lst vs) → RpL X.K G' vs ds → En X.K G' σ' (ρ.set i (some (.ref l))) → wB X rest N σ' H') (hN : X.N.Nodup := by assumption) (hi : X.N[i]? = some x := by rfl)
    (hx : Loc X.env.scope x := by first | exact Or.inl rfl | exact Or.inr rfl) (hs : swapsWith e (some (.Name x p)) pos.line X.env = pure false := by rfl) (hf : X.fn x = true ∨ X.env.scope.names.lookup x = some .local := by first | exact .inl rfl | exact .inr rfl | assumption) :
    wB X (.Assign [.Name x p] e pos :: rest) N σ H :=
  wB_cons (wS_of (ps_set hN hi hx pw hs hf) (h σ G H sg sh en _ fun l vs G1 H1 f1 hl gl hl' r1 => k l vs _ G1 H1 f1 hl gl hl' r1 ((en.up f1.g).set i (.ref l))))
/-- name = [.. for ..], the name a local of one line with it -/
theorem s_asgC {elt iter : Expr} {ifs : List Expr} {scope : Scope} {t : Str} {pn p2 : Pos} (i j : Nat) (h : EvC X H0 ρ elt iter ifs scope j ds) (sg : Same H0 G) (sh : Same G H) (en : En X.K G σ ρ)
    (k : ∀ l vs σ' G' H', Fr G H G' H' → H l = none → G' l = none → H' l = some (.lst vs) → RpL X.K G' vs ds → En X.K G' σ' (ρ.set i (some (.ref l))) → wB X rest N σ' H') (hN : X.N.Nodup := by assumption) (hi : X.N[i]? = some x := by rfl)
    (hx : X.env.scope.names.lookup x = some .local := by rfl) (hsw : swapsWith (.ListComp elt [⟨.Name t pn, iter, ifs, 0⟩] scope p2) (some (.Name x p)) pos.line X.env = pure true := by exact sw_true rfl rfl rfl (by decide +kernel))
    (hg : ∀ (s : Shared) (H : Hp) (C : Addr) (cl : List (Str × Addr)) (fp : List Addr), PG (X.blk s H scope (compEnvC scope cl C X.env) fp) (.Name t pn) (gName j) := by first | exact fun _ _ _ _ _ => pg_name (by assumption) rfl (Or.inl rfl) | exact fun _ _ _ _ _ => pg_name (by assumption) rfl (Or.inr rfl))
    (ok : BlkOk X.N X.env.scope scope [(t, j)] := by exact blkOk_by (by first | kernel_rfl | rfl)) (hc : X.calm = true := by rfl) (hs : ∀ x, foldedSetIterable iter X.env x = pure x := by intro _; rfl) :
    wB X (.Assign [.Name x p] (.ListComp elt [⟨.Name t pn, iter, ifs, 0⟩] scope p2) pos :: rest) N σ H := by
  obtain ⟨wi, hpi, hw⟩ := h
  refine wB_cons (wS_of (ps_setLc (i := i) (tt := bT X scope ifs) (te := bE X scope elt) (own := [(t, j)]) hc hN hi hx hsw (hpi _) ok hg (fun s H C cl fp => ⟨fun pins s1 σ1 H1 Q1 I h => h s H C cl fp pins s1 I⟩) (fun s H C cl fp => ⟨fun pins s1 σ1 H1 Q1 I h => h s H C cl fp pins s1 I⟩) hs)
    (hw σ G H sg sh en _ fun l vs G1 H1 f1 hl gl hl' r1 => k l vs _ G1 H1 f1 hl gl hl' r1 ((en.up f1.g).set i (.ref l))))
/-- .. the list as a value -/
theorem s_asgV {elt iter : Expr} {ifs : List Expr} {scope : Scope} {t : Str} {pn p2 : Pos} (i j : Nat) (h : EvC X H0 ρ elt iter ifs scope j ds) (sg : Same H0 G) (sh : Same G H) (en : En X.K G σ ρ)
    (k : ∀ σ' G' H', Fr G H G' H' → En X.K G' σ' (ρ.set i (some (.lst ds))) → wB X rest N σ' H') (hN : X.N.Nodup := by assumption) (hi : X.N[i]? = some x := by rfl)
    (hx : X.env.scope.names.lookup x = some .local := by rfl) (hsw : swapsWith (.ListComp elt [⟨.Name t pn, iter, ifs, 0⟩] scope p2) (some (.Name x p)) pos.line X.env = pure true := by exact sw_true rfl rfl rfl (by decide +kernel))
    (hg : ∀ (s : Shared) (H : Hp) (C : Addr) (cl : List (Str × Addr)) (fp : List Addr), PG (X.blk s H scope (compEnvC scope cl C X.env) fp) (.Name t pn) (gName j) := by first | exact fun _ _ _ _ _ => pg_name (by assumption) rfl (Or.inl rfl) | exact fun _ _ _ _ _ => pg_name (by assumption) rfl (Or.inr rfl))
    (ok : BlkOk X.N X.env.scope scope [(t, j)] := by exact blkOk_by (by first | kernel_rfl | rfl)) (hc : X.calm = true := by rfl) (hs : ∀ x, foldedSetIterable iter X.env x = pure x := by intro _; rfl) :
    wB X (.Assign [.Name x p] (.ListComp elt [⟨.Name t pn, iter, ifs, 0⟩] scope p2) pos :: rest) N σ H := by
  obtain ⟨wi, hpi, hw⟩ := h
  refine wB_cons (wS_of (ps_setLc (i := i) (tt := bT X scope ifs) (te := bE X scope elt) (own := [(t, j)]) hc hN hi hx hsw (hpi _) ok hg (fun s H C cl fp => ⟨fun pins s1 σ1 H1 Q1 I h => h s H C cl fp pins s1 I⟩) (fun s H C cl fp => ⟨fun pins s1 σ1 H1 Q1 I h => h s H C cl fp pins s1 I⟩) hs)
    (hw σ G H sg sh en _ fun l vs G1 H1 f1 hl gl hl' r1 => ?_))
  have f2 := f1.add hl gl hl'
  exact k _ _ H1 f2 ((en.up f2.g).set i (.lst upd_same (r1.up (Same.new gl))))
/-- a, b = e -/
theorem s_two {y : Str} {px py : Pos} {kt : Nat} {d1 d2 : D} (i j : Nat) (h : Ev X H0 ρ e (.tup [d1, d2])) (sg : Same H0 G) (sh : Same G H) (en : En X.K G σ ρ) (k : ∀ σ' G' H', Fr G H G' H' → En X.K G' σ' ((ρ.set i (some d1)).set j (some d2)) → wB X rest N σ' H') (hN : X.N.Nodup := by assumption)
    (g1 : PG X (.Name x px) (gName i) := by first | exact pg_name (by assumption) rfl (Or.inl rfl) | exact pg_name (by assumption) rfl (Or.inr rfl)) (g2 : PG X (.Name y py) (gName j) := by first | exact pg_name (by assumption) rfl (Or.inl rfl) | exact pg_name (by assumption) rfl (Or.inr rfl))
    (hc : X.calm = true := by rfl) (hn : (assignEach [Expr.Name x px, .Name y py] X.env).length = 2 := by rfl) (hst : (assignEach [Expr.Name x px, .Name y py] X.env).findIdx? (·.1) = none := by rfl)
    (hs1 : (assignEach [Expr.Name x px, .Name y py] X.env).map (·.2) = assign (.Name x px) X.env :: (assignEach [.Name y py] X.env).map (·.2) := by rfl) (hs2 : (assignEach [Expr.Name y py] X.env).map (·.2) = assign (.Name y py) X.env :: (assignEach [] X.env).map (·.2) := by rfl)
    (hs : swapsWithSole [.Tuple [.Name x px, .Name y py] kt p] e pos.line X.env = pure false := by rfl) (hw : swappedStores [.Tuple [.Name x px, .Name y py] kt p] e X.env = pure none := by rfl) (h1 : (assignEach [.Tuple [.Name x px, .Name y py] kt p] X.env).map (·.2) = [assign (.Tuple [.Name x px, .Name y py] kt p) X.env] := by rfl) :
    wB X (.Assign [.Tuple [.Name x px, .Name y py] kt p] e pos :: rest) N σ H := by
  refine wB_cons (wS_of (ps_asg pw (pg_tup hc (pgs_cons g1 (pgs_cons g2 pgs_nil hs2) hs1) hn hst) hs hw h1) (h σ G H sg sh en _ fun v G1 H1 f1 r1 => ?_))
  obtain ⟨a, xs, rfl, hs, r⟩ := r1.tup_of
  cases r with
  | cons ra r =>
    cases r with
    | cons rb r =>
      cases r
      exact ⟨a, _, rfl, Same.sqT f1.s hs, rfl, _, _, rfl, _, _, rfl, rfl, k _ G1 H1 f1 (((en.up f1.g).set i ra).set j rb)⟩
/-- return e -/
theorem s_ret (h : Ev X H0 ρ e d) (sg : Same H0 G) (sh : Same G H) (en : En X.K G σ ρ) (k : ∀ v G' H', Fr G H G' H' → Rp X.K G' v d → N.rt v H') : wB X (.Return (some e) pos :: rest) N σ H :=
  wB_cons (wS_of (ps_ret pw) (h σ G H sg sh en _ fun v G1 H1 f1 r1 => k v G1 H1 f1 r1))
/-- if -/
theorem s_if {b : Bool} (h : EvT X H0 ρ c b) (sg : Same H0 G) (sh : Same G H) (en : En X.K G σ ρ) (kt : b = true → ∀ G' H', Fr G H G' H' → En X.K G' σ ρ → wB X sa { N with nx := wB X rest N } σ H') (kf : b = false → ∀ G' H', Fr G H G' H' → En X.K G' σ ρ → wB X sb { N with nx := wB X rest N } σ H') :
    wB X (.If c sa sb pos :: rest) N σ H :=
  wB_cons (wS_of (ps_if ptw pbw pbw) (h σ G H sg sh en _ fun G1 H1 f1 => by
    cases b with
    | true => exact kt rfl G1 H1 f1 (en.up f1.g)
    | false => exact kf rfl G1 H1 f1 (en.up f1.g)))
/-- if without else -/
theorem s_when {b : Bool} (h : EvT X H0 ρ c b) (sg : Same H0 G) (sh : Same G H) (en : En X.K G σ ρ) (kt : b = true → ∀ G' H', Fr G H G' H' → En X.K G' σ ρ → wB X sa { N with nx := wB X rest N } σ H') (kf : b = false → ∀ G' H', Fr G H G' H' → En X.K G' σ ρ → wB X rest N σ H') :
    wB X (.If c sa [] pos :: rest) N σ H := s_if h sg sh en kt fun hb G1 H1 f1 en1 => wB_nil (kf hb G1 H1 f1 en1)
/-- e, for what it does -/
theorem s_expr (h : Ev X H0 ρ e d) (sg : Same H0 G) (sh : Same G H) (en : En X.K G σ ρ) (k : ∀ G' H', Fr G H G' H' → En X.K G' σ ρ → wB X rest N σ H') (hs : swapsWith e none pos.line X.env = pure false := by rfl) : wB X (.Expr e pos :: rest) N σ H :=
  wB_cons (wS_of (ps_expr pw hs) (h σ G H sg sh en _ fun v G1 H1 f1 r1 => k G1 H1 f1 (en.up f1.g)))
/-- o[j] = e, o a list -/
theorem s_setL {o ix : Expr} {ps : Pos} {l : Addr} {vs : List V} {j : Nat} {ρo : Ro} (h : Ev X H0 ρ e d) (ho : Ev X Nil ρo o (.ref l)) (hi : Ev X H0 ρ ix (.int (j : Int))) (sg : Same H0 G) (sh : Same G H) (en : En X.K G σ ρ) (eno : En X.K Nil σ ρo) (hl : H l = some (.lst vs)) (hj : j < vs.length)
    (k : ∀ v G' H', Fr G H G' H' → Rp X.K G' v d → wB X rest N σ (upd H' l (.lst (vs.set j v))))
    (hs : swapsWithSole [.Subscript o ix ps] e pos.line X.env = pure false := by rfl) (hw : swappedStores [.Subscript o ix ps] e X.env = pure none := by rfl) (h1 : (assignEach [.Subscript o ix ps] X.env).map (·.2) = [assign (.Subscript o ix ps) X.env] := by rfl)
    (ha : ∀ v, assign (.Subscript o ix ps) X.env v = (do
      let ov ← holding [v] (eval o X.env)
      let iv ← holding [v, ov] (eval ix X.env)
      standAt ps
      holding [v, ov, iv] (setItem ov iv v)
      release [v, ov, iv] []) := by intro _; rfl) : wB X (.Assign [.Subscript o ix ps] e pos :: rest) N σ H := by
  refine wB_cons (wS_of (ps_asg pw (pg_sub pw pw set_list ha) hs hw h1) (h σ G H sg sh en _ fun v G1 H1 f1 r1 => ho σ Nil H1 same_nil same_nil eno _ fun w G2 H2 f2 r2 => ?_))
  have s2 : Same G1 H2 := f1.s.trans f2.h
  refine hi σ G1 H2 (sg.trans f1.g) s2 (en.up f1.g) _ fun u G3 H3 f3 r3 => ?_
  obtain rfl := r2.ref_of
  obtain rfl := r3.int_of
  have f13 : Fr G H G3 H3 := ⟨(f1.h.trans f2.h).trans f3.h, f1.g.trans f3.g, f3.s, fun a e1 e2 => f3.n a (f1.n a e1 e2) fun z => by
    cases q : H a with
    | none => exact e2 q
    | some o => rw [(f1.h.trans f2.h) a o q] at z; cases z⟩
  refine ⟨l, vs, (j : Int), j, rfl, rfl, f13.h _ _ hl, ?_, k v G3 H3 f13 (r1.up f3.g)⟩
  unfold ixN
  rw [if_pos (Int.natCast_nonneg j), if_pos (by omega), Int.toNat_natCast]
/-- a list outside of G -/
structure Lo (K : PySem.W.Frag) (G H : Hp) (l : Addr) (ds : List D) : Prop where
  out : G l = none
  ex : ∃ vs, H l = some (.lst vs) ∧ RpL K G vs ds
theorem Lo.fr {K : PySem.W.Frag} {G' H' : Hp} {l : Addr} (h : Lo K G H l ds) (f : Fr G H G' H') : Lo K G' H' l ds := by
  obtain ⟨vs, h1, h2⟩ := h.ex
  obtain ⟨g3, h3⟩ := f.out h.out h1
  exact ⟨g3, vs, h3, h2.up f.g⟩
/-- l.append(e) -/
theorem s_app {o : Expr} {pa p1 : Pos} {l : Addr} (ho : Ev X Nil ρ o (.ref l)) (h : Ev X H0 ρ e d) (sg : Same H0 G) (sh : Same G H) (en : En X.K G σ ρ) (hl : Lo X.K G H l ds) (hz : ds.length < 100000)
    (k : ∀ G' H' H2, Fr G H G' H' → (∃ o, H2 = upd H' l o) → Lo X.K G' H2 l (ds ++ [d]) → En X.K G' σ ρ → wB X rest N σ H2)
    (pe : PE X (.Call (.Attribute o "append" pa) [e] [] p1) (tBM X.K "list" rAppend (wE X o) (wA X [e])) := by exact pe_bm PySem.F.plainAttrs_list PySem.F.slot_list_append PySem.F.type_list_append mt_append pw paw)
    (hs2 : starEach [e] X.env = (false, eval e X.env) :: starEach [] X.env := by rfl) (hs : swapsWith (.Call (.Attribute o "append" pa) [e] [] p1) none pos.line X.env = pure false := by rfl) :
    wB X (.Expr (.Call (.Attribute o "append" pa) [e] [] p1) pos :: rest) N σ H := by
  refine wB_cons (wS_of (ps_expr pe hs) (ho σ G H same_nil sh en _ fun v G1 H1 f1 r1 => ?_))
  obtain rfl := r1.ref_of
  obtain ⟨vs, h1, h2⟩ := (hl.fr f1).ex
  refine ⟨.inl ⟨rfl, _, SqL.of h1⟩, a_cons h a_nil hs2 σ G1 H1 (sg.trans f1.g) f1.s (en.up f1.g) _ fun ws G2 H2 f2 r2 => ?_⟩
  cases r2 with
  | cons r2 r3 =>
    cases r3
    have hl2 := (hl.fr f1).fr f2
    obtain ⟨vs2, h3, h4⟩ := hl2.ex
    refine ⟨l, vs2, _, rfl, rfl, h3, by rw [h4.length]; exact Nat.lt_trans hz (by decide), k G2 H2 _ (f1.trans f2) ⟨_, rfl⟩ ⟨hl2.out, _, upd_same, h4.append (RpL.one r2)⟩ (en.up (f1.trans f2).g)⟩
/-- for x in iter, by a word over the turn, the slots, the heaps -/
theorem s_for {α : Type} {iter : Expr} {body : List Stmt} {px : Pos} (j : Nat) (enc : α → D) (xs : List α) (J : Nat → Ro → Hp → Hp → Prop) (src : EvI X H0 ρ iter (xs.map enc)) (sg : Same H0 G) (sh : Same G H) (en : En X.K G σ ρ)
    (h0 : ∀ G1 H1, Fr G H G1 H1 → J 0 ρ G1 H1)
    (hs : ∀ i x ρ' σ' G' H' G3 H3, xs[i]? = some x → J i ρ' G' H' → Fr G' H' G3 H3 → En X.K G3 σ' (ρ'.set j (some (enc x))) →
      wB X body { N with nx := fun σ2 H2 => ∃ ρ2 G2, Same G' G2 ∧ Same G2 H2 ∧ En X.K G2 σ2 ρ2 ∧ J (i + 1) ρ2 G2 H2, ct := fun σ2 H2 => ∃ ρ2 G2, Same G' G2 ∧ Same G2 H2 ∧ En X.K G2 σ2 ρ2 ∧ J (i + 1) ρ2 G2 H2, bk := wB X rest N } σ' H3)
    (hd : ∀ ρ' σ' G' H', J xs.length ρ' G' H' → Same G' H' → En X.K G' σ' ρ' → wB X rest N σ' H') (hN : X.N.Nodup := by assumption)
    (g1 : PG X (.Name x px) (gName j) := by first | exact pg_name (by assumption) rfl (Or.inl rfl) | exact pg_name (by assumption) rfl (Or.inr rfl)) (hp : PassesOwn (model X.prog X.w) X.A X.env X.xe := by exact PassesOwn.never) (hc : X.calm = true := by rfl) (hf : ∀ x, foldedSetIterable iter X.env x = pure x := by intro _; rfl) :
    wB X (.For (.Name x px) iter body [] pos :: rest) N σ H := by
  obtain ⟨wi, hpi, hw⟩ := src
  refine wB_cons (wS_of (ps_for hp hc (hpi _) g1 pbw hf) (hw σ G H sg sh en _ fun It G1 H1 f1 hJ => ?_))
  refine ⟨fun i m σ' H' => m = xs.length - i ∧ i ≤ xs.length ∧ ∃ ρ' G', Same G1 G' ∧ Same G' H' ∧ En X.K G' σ' ρ' ∧ J i ρ' G' H', ⟨xs.length, by simp, Nat.zero_le _, ρ, G1, Same.refl _, f1.s, en.up f1.g, h0 G1 H1 f1⟩, ?_⟩
  rintro i m σ' H' ⟨rfl, hi, ρ', G', s1, s2, en', q⟩
  obtain ⟨k1, k2⟩ := hJ i G' H' s1 s2
  by_cases hlt : i < xs.length
  · have hx : xs[i]? = some xs[i] := List.getElem?_eq_getElem hlt
    obtain ⟨go, yl⟩ := k2 (enc xs[i]) (by rw [List.getElem?_map, hx]; rfl)
    refine .inr ⟨go, fun σ2 H2 => ∃ ρ2 G2, Same G' G2 ∧ Same G2 H2 ∧ En X.K G2 σ2 ρ2 ∧ J (i + 1) ρ2 G2 H2, fun σ2 H2 ⟨ρ2, G2, a1, a2, a3, a4⟩ => ⟨xs.length - (i + 1), by omega, rfl, hlt, ρ2, G2, s1.trans a1, a2, a3, a4⟩, fun x H3 y => ?_⟩
    obtain ⟨G3, f3, rx⟩ := yl x H3 y
    exact hs i xs[i] ρ' _ G' H' G3 H3 hx q f3 ((en'.up f3.g).set j rx)
  · have e : i = xs.length := by omega
    subst e
    exact .inl ⟨k1 (by rw [List.length_map]; exact Nat.le_refl _), hd ρ' σ' G' H' q s2 en'⟩
/-- a new list is a value from here on -/
theorem Lo.val {K : PySem.W.Frag} {G0 H0 : Hp} {l : Addr} (h : Lo K G H l ds) (f : Fr G0 H0 G H) (hl : H0 l = none) : ∃ G', Fr G0 H0 G' H ∧ Same G G' ∧ Rp K G' (.ref l) (.lst ds) := by
  obtain ⟨vs, h1, h2⟩ := h.ex
  exact ⟨_, f.add hl h.out h1, Same.new h.out, .lst upd_same (h2.up (Same.new h.out))⟩
/-- .. for one question: the list as a value in a slot -/
theorem Lo.en {K : PySem.W.Frag} {l : Addr} {i : Nat} (h : Lo K G H l ds) (sh : Same G H) (en : En K G σ ρ) (hi : ρ[i]? = some (some (.ref l))) : ∃ G', Same G G' ∧ Same G' H ∧ En K G' σ (ρ.set i (some (.lst ds))) ∧ ∀ G0 H0, Fr G0 H0 G H → H0 l = none → Fr G0 H0 G' H := by
  obtain ⟨vs, h1, h2⟩ := h.ex
  refine ⟨upd G l (.lst vs), Same.new h.out, fun a u e => ?_, ?_, fun G0 H0 f hl => f.add hl h.out h1⟩
  · by_cases ha : a = l
    · subst ha
      rw [upd_same] at e
      rw [h1]
      exact e
    · rw [upd_ne ha] at e
      exact sh a u e
  · have en2 := en.up (Same.new (o := .lst vs) h.out)
    refine ⟨by rw [List.length_set]; exact en.len, fun j d q => ?_⟩
    by_cases hj : i = j
    · subst hj
      rw [List.getElem?_set_self ((List.getElem?_eq_some_iff.mp hi).1)] at q
      cases q
      obtain ⟨v, a1, a2⟩ := en.at_ i _ hi
      cases a2
      exact ⟨_, a1, .lst upd_same (h2.up (Same.new h.out))⟩
    · rw [List.getElem?_set_ne hj] at q
      exact en2.at_ j d q
end
end G9

/-! Layer S: sorting of tuples of ints of any lengths, sets. -/
namespace G9S
open PySem PyProof.Rows PySem.W
/-- a tuple of these ints -/
def TI (h : Heap) (v : Value) (ns : List Int) : Prop := ∃ (a : Addr) (its : Array Value), v = .ref a ∧ IsTup h a its ∧ IntsAre its.toList ns
theorem TI.keep {h h' : Heap} {v : Value} {ns : List Int} (x : TI h v ns) (k : ∀ b o, h.get? b = some o → o.cls = .type "tuple" → h'.get? b = some o) : TI h' v ns := by
  obtain ⟨a, its, e, ⟨o, ho, hc, hd⟩, hi⟩ := x
  exact ⟨a, its, e, ⟨o, k a o ho hc, hc, hd⟩, hi⟩
section
variable {prog : Program} {w : World} {A : Around} {E : Value → Shared → Prop} {s : Shared}
/-- two tuples by their items, from the i-th on -/
theorem lex_at {b0 : Bool} {Q : Bool → Shared → Prop} {n0 m0 : Nat} : ∀ (us vs : List Value) (ns ms : List Int) (i : Nat), IntsAre us ns → IntsAre vs ms → ns.length + m0 = ms.length + n0 → Q (HT.lexLt ns ms) s →
    KatLex prog w A b0 (decide (n0 < m0)) Q (us.zip vs) i s
  | _, _, _, _, i, .nil, .nil, hl, h => by
    have e : decide (n0 < m0) = false := decide_eq_false (by simp at hl; omega)
    rw [e]
    exact h
  | _, _, _, _, i, .nil, .cons y u hv, hl, h => by
    have e : decide (n0 < m0) = true := decide_eq_true (by simp at hl; omega)
    rw [e]
    exact h
  | _, _, _, _, i, .cons x t hu, .nil, hl, h => by
    have e : decide (n0 < m0) = false := decide_eq_false (by simp at hl; omega)
    rw [e]
    exact h
  | _, _, _, _, i, .cons x t hu, .cons y u hv, hl, h => by
    refine kat_cons (SeqAt.EqAt.int_int x t y u prog w _ _ ?_)
    rw [HT.lexLt_cons] at h
    refine kat_go (fun e1 => ?_) fun e1 => ?_
    · have ex : x = y := by simpa using e1
      rw [if_pos ex] at h
      exact kat_yes (lex_at _ _ _ _ (i + 1) hu hv (by simp only [List.length_cons] at hl; omega) h)
    · have ex : ¬ x = y := by simpa using e1
      rw [if_neg ex] at h
      refine kat_no ?_
      cases hb : (b0 && i == 0) with
      | true => exact oneLt_int h
      | false => exact kat_one _ _ (PyProof.Rows.lt_int h)
theorem cmp_tups {vs : List Value} {k : Value → List Int} {b0 : Bool} (hp : ∀ v ∈ vs, TI s.heap v (k v)) : SrtO.Cmp prog w A s (tuples' b0) (fun p => p.1 ∈ vs) (SrtO.lt2 fun v u => HT.lexLt (k v) (k u)) := by
  intro p q hm hm'
  obtain ⟨a, its, e, ⟨o, ho, hc, n, hd⟩, hi⟩ := hp _ hm
  obtain ⟨a', its', e', ⟨o', ho', hc', n', hd'⟩, hi'⟩ := hp _ hm'
  show wpAny (model prog w) A (keyLt' (tuples' b0) p.1 q.1) (fun r s' => s' = s ∧ r = HT.lexLt (k p.1) (k q.1)) (fun _ _ => False) s
  generalize k p.1 = ns at hi ⊢
  generalize k q.1 = ms at hi' ⊢
  rw [e, e']
  refine kat_lt ho hd ho' hd' (lex_at _ _ _ _ 0 hi hi' ?_ ⟨rfl, rfl⟩)
  rw [← hi.length, ← hi'.length, Array.length_toList, Array.length_toList]
  omega
theorem cmp_gen {vs : List Value} {k : Value → List Int} (hu : A.units < cLine) (hp : ∀ v ∈ vs, TI s.heap v (k v)) : SrtO.Cmp prog w A s general' (fun p => p.1 ∈ vs) (SrtO.lt2 fun v u => HT.lexLt (k v) (k u)) := by
  intro p q hm hm'
  obtain ⟨a, its, e, ht, hi⟩ := hp _ hm
  obtain ⟨a', its', e', ht', hi'⟩ := hp _ hm'
  show wpAny (model prog w) A (oneLt' false p.1 q.1) (fun r s' => s' = s ∧ r = HT.lexLt (k p.1) (k q.1)) (fun _ _ => False) s
  rw [e] at hi
  rw [e'] at hi'
  rw [e, e']
  exact kat_one _ _ (HT.lt_tupInts ht ht' hi hi' hu (show s = s ∧ _ from ⟨rfl, rfl⟩))
theorem cmp_one {vs : List Value} {k : Value → List Int} (hu : A.units < cLine) (hp : ∀ v ∈ vs, TI s.heap v (k v)) : SrtO.Cmp prog w A s oneType' (fun p => p.1 ∈ vs) (SrtO.lt2 fun v u => HT.lexLt (k v) (k u)) := by
  intro p q hm hm'
  obtain ⟨a, its, e, ht, hi⟩ := hp _ hm
  obtain ⟨a', its', e', ht', hi'⟩ := hp _ hm'
  show wpAny (model prog w) A (keyLt' oneType' p.1 q.1) (fun r s' => s' = s ∧ r = HT.lexLt (k p.1) (k q.1)) (fun _ _ => False) s
  rw [e] at hi
  rw [e'] at hi'
  rw [e, e', keyLt'_oneType, oneLt'_eq]
  simp only [if_true]
  obtain ⟨⟨cls, dd, data, sl⟩, ho, hc, n, hd⟩ := id ht
  obtain ⟨⟨cls2, dd2, data2, sl2⟩, ho2, hc2, n2, hd2⟩ := id ht'
  simp only at hc hd hc2 hd2
  subst hc hd hc2 hd2
  refine wpAny_bind (wpAny_cRoomFor hu ?_)
  refine wpAny_bind (wpAny_callSpecialIfBound?_slot ⟨_, ho, rfl⟩ PySem.F.slot_tuple_lt ?_)
  refine call_meets PySem.F.slot_tuple_lt ⟨_, ho, rfl⟩ PySem.F.entry_tuple_lt (PySem.F.args_tuple_lt_2 _ _) (HT.tuple_lt_ints a a' its its' n n2 dd dd2 sl sl2 _ _ hi hi') ⟨ho, ho2, ?_⟩
  exact wpAny_truthy_bool ⟨rfl, rfl⟩
/-- the first items, where there are some -/
theorem firsts_any {M : Model} : ∀ (vs : List Value) (ks : List (List Int)) {Q : List (Option Value) → Shared → Prop}, Paired (fun v k => TI s.heap v k) vs ks →
    (∀ fs : List (Option Value), Paired (fun f k => (k = [] ∧ f = none) ∨ ∃ x r t, k = x :: r ∧ f = some (.int x t)) fs ks → Q fs s) → wpAny M A (vs.mapM firstOfTuple') Q E s
  | [], _, Q, .nil, h => by
    rw [List.mapM_nil]
    exact wpAny_pure (h [] .nil)
  | v :: vs, k :: ks, Q, .cons hv t, h => by
    obtain ⟨a, its, rfl, ⟨o, ho, hc, n, hd⟩, hi⟩ := hv
    rw [List.mapM_cons]
    refine wpAny_bind ?_
    rw [kas_first_eq]
    refine wpAny_bind (Looks.here (show Looks M s.heap (typeOf (.ref a)) o.cls from (Looks.ld ho).andThen .now) ?_)
    rw [hc, if_neg (by first | decide | simp)]
    refine wpAny_bind (listItems_at ho hd (wpAny_pure ?_))
    refine wpAny_bind (firsts_any vs ks t fun fs hf => wpAny_pure (h _ (.cons ?_ hf)))
    have e0 : its[0]? = its.toList[0]? := by rw [Array.getElem?_toList]
    rw [e0]
    generalize its.toList = l at hi ⊢
    cases hi with
    | nil => exact .inl ⟨rfl, rfl⟩
    | cons x t hr => exact .inr ⟨x, _, t, rfl, rfl⟩
theorem ti_pairs {k : Value → List Int} : ∀ (vs : List Value), (∀ v ∈ vs, TI s.heap v (k v)) → Paired (fun v k => TI s.heap v k) vs (vs.map k)
  | [], _ => .nil
  | v :: vs, h => .cons (h v List.mem_cons_self) (ti_pairs vs fun u hu => h u (List.mem_cons_of_mem _ hu))
theorem one_type {M : Model} {vs : List Value} {T : Value} {Q : Option Value → Shared → Prop} (h1 : 1 ≤ vs.length) (hT : ∀ v ∈ vs, Looks M s.heap (typeOf v) T) (hT2 : (T == T) = true) (h : Q (some T) s) : wpAny M A (oneTypeOnly' vs.toArray) Q E s := by
  obtain ⟨f, fr, rfl⟩ : ∃ f fr, vs = f :: fr := by
    match vs, h1 with
    | f :: fr, _ => exact ⟨f, fr, rfl⟩
  rw [oneTypeOnly'_eq, List.mapM_toArray, map_eq_pure_bind]
  refine wpAny_bind (wpAny_bind (kas_mapM (r := T) _ (fun v hv Q' hq => (hT v hv).here hq) (wpAny_pure ?_)))
  have hall2 : ((List.map (fun _ => T) (f :: fr)).toArray.all fun x => x == T) = true := by
    simp only [List.all_toArray, List.all_map, List.all_eq_true]
    intro _ _
    exact hT2
  have h0 : (List.map (fun _ => T) (f :: fr)).toArray[0]? = some T := by simp
  rw [h0]
  simp only [hall2, if_true]
  exact wpAny_pure h
/-- the kind of a list of tuples of ints -/
theorem kind_any {vs : List Value} {k : Value → List Int} (h2 : 2 ≤ vs.length) (hu : A.units < cLine) (hp : ∀ v ∈ vs, TI s.heap v (k v)) :
    ∃ κ, (∀ (Q : SortKind → Shared → Prop) (E : Value → Shared → Prop), Q κ s → wpAny (model prog w) A (keyKind' vs.toArray) Q E s) ∧ SrtO.Cmp prog w A s κ (fun p => p.1 ∈ vs) (SrtO.lt2 fun v u => HT.lexLt (k v) (k u)) := by
  have hT : ∀ v ∈ vs, Looks (model prog w) s.heap (typeOf v) (.type "tuple") := fun v hv => by
    obtain ⟨a, its, rfl, ⟨o, ho, hc, n, hd⟩, hi⟩ := hp v hv
    rw [← hc]
    exact (Looks.ld ho).andThen .now
  by_cases hall : ∀ v ∈ vs, k v ≠ []
  · refine ⟨tuples' true, fun Q E hq => ?_, cmp_tups hp⟩
    obtain ⟨fs, hf, hi, hl⟩ : ∃ fs : List Value, KatTups s.heap vs fs ∧ (∀ f ∈ fs, ∃ x t, f = Value.int x t) ∧ fs.length = vs.length := by
      clear h2 hT
      induction vs with
      | nil => exact ⟨[], .nil, (fun f hf => by cases hf), rfl⟩
      | cons v vs ih =>
        obtain ⟨fs, h1, h3, h4⟩ := ih (fun u hu => hp u (List.mem_cons_of_mem _ hu)) fun u hu => hall u (List.mem_cons_of_mem _ hu)
        obtain ⟨a, its, rfl, ⟨o, ho, hc, n, hd⟩, hi⟩ := hp v List.mem_cons_self
        have hne := hall _ List.mem_cons_self
        cases e : its.toList with
        | nil =>
          rw [e] at hi
          cases q : k (.ref a) with
          | nil => exact absurd q hne
          | cons _ _ => rw [q] at hi; cases hi
        | cons f r =>
          rw [e] at hi
          cases q : k (.ref a) with
          | nil => exact absurd q hne
          | cons x ns =>
            rw [q] at hi
            cases hi with
            | cons x t hr => exact ⟨.int x t :: fs, .cons ho hc hd (by rw [← Array.getElem?_toList, e]; rfl) h1, fun f hf => by
                rcases List.mem_cons.mp hf with z | z
                · exact ⟨x, t, z⟩
                · exact h3 f z, by rw [List.length_cons, List.length_cons, h4]⟩
    refine kat_kind (T := .type "int") hf (by omega) (fun f hm => ?_) (by rfl) ?_
    · obtain ⟨x, t, rfl⟩ := hi f hm
      exact PySem.W.Looks.now
    · have e : (Value.type "int" != Value.type "tuple") = true := by first | decide +kernel | rfl | decide
      rw [e]
      exact hq
  · -- some of them is empty
    have key : ∀ (fs : List (Option Value)), Paired (fun f k => (k = [] ∧ f = none) ∨ ∃ x r t, k = x :: r ∧ f = some (.int x t)) fs (vs.map k) → (fs.toArray.all fun x => x.isSome) = false := by
      intro fs hf
      cases e : (fs.toArray.all fun x => x.isSome) with
      | false => rfl
      | true =>
        refine absurd ?_ hall
        rw [List.all_toArray, List.all_eq_true] at e
        clear h2 hT hall hp
        induction vs generalizing fs with
        | nil => intro v hv; cases hv
        | cons v vs ih =>
          cases hf with
          | cons h1 h2 =>
            intro u hu
            rcases List.mem_cons.mp hu with z | z
            · subst z
              rcases h1 with ⟨_, q⟩ | ⟨x, r, t, q, _⟩
              · have := e _ List.mem_cons_self
                rw [q] at this
                cases this
              · rw [q]
                exact fun z => nomatch z
            · exact ih _ h2 (fun x hx => e x (List.mem_cons_of_mem _ hx)) u z
    by_cases hf : ∃ v rest, vs = v :: rest ∧ k v ≠ []
    · obtain ⟨v, rest, rfl, hv⟩ := hf
      refine ⟨general', fun Q E hq => ?_, cmp_gen hu hp⟩
      rw [kat_kind_eq, List.mapM_toArray, map_eq_pure_bind]
      refine wpAny_bind (wpAny_bind (firsts_any _ _ (ti_pairs _ hp) fun fs h => wpAny_pure ?_))
      rw [key fs h, if_neg (by decide)]
      cases h with
      | cons h1 h2 =>
        rcases h1 with ⟨q, _⟩ | ⟨x, r, t, _, q⟩
        · exact absurd q hv
        · subst q
          simp only [List.getElem?_toArray, List.getElem?_cons_zero, Option.bind_some, id, Option.isSome_some, if_true]
          exact wpAny_pure hq
    · refine ⟨oneType', fun Q E hq => ?_, cmp_one hu hp⟩
      rw [kat_kind_eq, List.mapM_toArray, map_eq_pure_bind]
      refine wpAny_bind (wpAny_bind (firsts_any _ _ (ti_pairs _ hp) fun fs h => wpAny_pure ?_))
      rw [key fs h, if_neg (by decide)]
      obtain ⟨v, rest, rfl⟩ : ∃ f fr, vs = f :: fr := by
        match vs, h2 with
        | f :: fr, _ => exact ⟨f, fr, rfl⟩
      cases h with
      | cons h1 h3 =>
        rcases h1 with ⟨_, q⟩ | ⟨x, r, t, q, _⟩
        · subst q
          simp only [List.getElem?_toArray, List.getElem?_cons_zero, Option.bind_some, id, Option.isSome_none, Bool.false_eq_true, if_false]
          refine wpAny_bind (one_type (by omega) hT (by rfl) ?_)
          exact wpAny_pure hq
        · exact absurd ⟨v, rest, rfl, fun z => by rw [z] at q; cases q⟩ hf

/-! ### sorted(..) over anything that is collected -/
/-- what is known behind the collecting -/
structure Col (s : Shared) (P : List Value → Prop) (vs : List Value) (s1 : Shared) : Prop where
  keep : ∀ b o, s.heap.get? b = some o → s1.heap.get? b = some o
  size : s.heap.objs.size ≤ s1.heap.objs.size
  gens : s1.gens = s.gens
  os : s1.os = s.os
  held : P vs
/-- the sorted list at p -/
structure Sor (s : Shared) (ltv : Value → Value → Bool) (P : List Value → Prop) (p : Addr) (out : List Value) (s2 : Shared) : Prop where
  keep : ∀ b o, s.heap.get? b = some o → s2.heap.get? b = some o
  new : s.heap.objs.size ≤ p
  gens : s2.gens = s.gens
  os : s2.os = s.os
  obj : ∃ c, s2.heap.get? p = some (seqObj "list" out.toArray c)
  ord : SrtO.Srtd ltv out
  per : ∃ vs, P vs ∧ SrtO.Stb ltv out vs
theorem sorted_by {v : Value} {ltv : Value → Value → Bool} {P : List Value → Prop} {Q : Value → Shared → Prop} (O : SrtO.Swo ltv) (hz : ∀ vs, P vs → vs.length ≤ sizeLine) (hcol : wpAny (model prog w) A.in1 (collect v) (Col s P) E s)
    (hS : ∀ vs s1 a, Col s P vs s1 → 2 ≤ vs.length → s1.heap.get? a = some (seqObj "list" vs.toArray 0) → s.heap.objs.size ≤ a → SrtO.SortableO prog w A.in1.in1 s1 a vs ltv)
    (h : ∀ p out s2, Sor s ltv P p out s2 → Q (.ref p) s2) : wpAny (model prog w) A (call (.builtin "sorted") [v]) Q E s := by
  refine Calls.call_function_entry kind_sorted plain_sorted entry_sorted (args_sorted1 _) ?_
  unfold Builtin.«sorted»
  refine wpAny_bind (m := checkCount "sorted" 1 1 _) (wpAny_pure ?_)
  refine wpAny_bind (wpAny_mono hcol (fun vs s1 C => ?_) fun _ _ x => x)
  have hv := hz vs C.held
  refine wpAny_bind (wpAny_newList ?_ hv)
  have hoL : (s1.heap.push (seqObj "list" vs.toArray 0)).get? s1.heap.objs.size = some (seqObj "list" vs.toArray 0) := Heap.get?_push_size _ rfl
  have C2 : Col s P vs { s1 with heap := s1.heap.push (seqObj "list" vs.toArray 0) } := ⟨fun b o e => Heap.get?_push_of_some _ (C.keep b o e), by
    show s.heap.objs.size ≤ (s1.heap.push (seqObj "list" vs.toArray 0)).objs.size
    rw [Heap.size_push]
    exact Nat.le_succ_of_le C.size, C.gens, C.os, C.held⟩
  refine wpAny_bind (wpAny_holding (wpAny_call_entry (s := { s1 with heap := s1.heap.push (seqObj "list" vs.toArray 0) }) slot_list_sort ⟨_, hoL, rfl⟩ entry_list_sort
    (SrtO.list_sort_ord (s := { s1 with heap := s1.heap.push (seqObj "list" vs.toArray 0) }) O hoL hv (fun h2 => hS vs _ _ C2 h2 hoL C.size) fun out hs hb => ⟨_, rfl, ?_⟩) (args_list_sort _)))
  refine wpAny_pure ⟨_, rfl, h _ out _ ⟨fun b o e => ?_, C.size, C.gens, C.os, ?_, hs, vs, C.held, hb⟩⟩
  · have q := C.keep b o e
    have hlt := Heap.lt_size q
    show (sortedHeap (s1.heap.push (seqObj "list" vs.toArray 0)) s1.heap.objs.size vs out.toArray).get? b = some o
    rw [sortedHeap_old (Nat.ne_of_lt hlt) (by rw [size_push']; exact Nat.lt_succ_of_lt hlt)]
    exact Heap.get?_push_of_some _ q
  · exact sortedHeap_at (vs := vs) (out := out.toArray) hoL
/-- a list, a tuple collected -/
theorem col_list {l : Addr} {vs : List Value} (hl : s.heap.IsList l vs.toArray) (hz : vs.length ≤ sizeLine) : wpAny (model prog w) A (collect (.ref l)) (Col s (fun us => us = vs)) E s := by
  refine collect_list hl ⟨fun b o e => ?_, ?_, rfl, rfl, rfl⟩ hz
  · rw [Heap.get?_update_ne _ _ _ _ (Nat.ne_of_lt (Heap.lt_size e))]
    exact Heap.get?_push_of_some _ e
  · show s.heap.objs.size ≤ ((s.heap.push (seqObj "list" #[] 0)).update s.heap.objs.size (Obj.mapSeq (· ++ vs.toArray))).objs.size
    rw [Heap.size_update, Heap.size_push]
    exact Nat.le_succ _
theorem col_tup {l : Addr} {vs : List Value} (hl : IsTup s.heap l vs.toArray) (hz : vs.length ≤ sizeLine) : wpAny (model prog w) A (collect (.ref l)) (Col s (fun us => us = vs)) E s := by
  obtain ⟨o, ho, hc, n, hd⟩ := id hl
  unfold collect
  refine wpAny_bind (wpAny_runValue (codeAny_builtin entry_proto_collect' ?_))
  show wpAny _ _ (do again (.builtin "list.__iadd__" ⟨[← newList [], .ref l], []⟩)) _ _ s
  refine wpAny_bind (wpAny_newList (wpAny_pure ⟨Code.quiet_builtin _ (by decide +kernel), codeAny_builtin entry_list_iadd' ?_⟩))
  show wpAny _ _ (Builtin.List.listExtendWith (.ref s.heap.objs.size) (.ref l) (.ref s.heap.objs.size)) _ _ { s with heap := s.heap.push (seqObj "list" #[] 0) }
  unfold Builtin.List.listExtendWith
  have ho' : (s.heap.push (seqObj "list" #[] 0)).get? l = some o := Heap.get?_push_of_some _ ho
  refine wpAny_bind (wpAny_typeOf (T := "tuple") ⟨o, ho', hc⟩ ?_)
  have ht : (Value.type "tuple" == Value.type "tuple") = true := by rfl
  rw [if_pos (by rw [ht, Bool.or_true])]
  refine wpAny_bind (listItems_at ho' hd ?_)
  refine wpAny_bind (listItems_at (xs := #[]) (n := 0) (Heap.get?_push_size _ rfl) rfl ?_)
  rw [if_neg (by simp)]
  refine wpAny_bind (listUpdate_at (xs := #[]) (n := 0) (Heap.get?_push_size _ rfl) rfl ?_ (Nat.zero_le _) (by show (#[] ++ vs.toArray).size ≤ sizeLine + 1; simp only [Array.size_append, List.size_toArray, List.length_nil]; omega))
  refine wpAny_pure ?_
  show wpAny (model prog w) A (do
      let o ← load s.heap.objs.size
      match o.data with
      | .seq xs _ => pure xs.toList
      | _ => unsupported "internal:collect") _ E { s with heap := (s.heap.push (seqObj "list" #[] 0)).update s.heap.objs.size (Obj.mapSeq (· ++ vs.toArray)) }
  refine wpAny_bind (wpAny_load (get?_update_seq (Heap.get?_push_size _ rfl) _) ?_)
  show wpAny _ _ (pure ((#[] : Array Value) ++ vs.toArray).toList) _ E _
  rw [show ((#[] : Array Value) ++ vs.toArray).toList = vs by simp]
  refine wpAny_pure ⟨fun b o e => ?_, ?_, rfl, rfl, rfl⟩
  · show ((s.heap.push (seqObj "list" #[] 0)).update s.heap.objs.size (Obj.mapSeq (· ++ vs.toArray))).get? b = some o
    rw [Heap.get?_update_ne _ _ _ _ (Nat.ne_of_lt (Heap.lt_size e))]
    exact Heap.get?_push_of_some _ e
  · show s.heap.objs.size ≤ ((s.heap.push (seqObj "list" #[] 0)).update s.heap.objs.size (Obj.mapSeq (· ++ vs.toArray))).objs.size
    rw [Heap.size_update, Heap.size_push]
    exact Nat.le_succ _
end
end G9S

/-! Layer T: sets of tuples of ints, made of a tuple; sorted of them. -/
namespace G9S
open PySem PySem.Spec PyProof.Rows L2
section
variable {P : Program} {w : World} {A : Around} {E : Value → Shared → Prop} {s : Shared}
/-- the new set of set(..) -/
abbrev set0 (w : World) : Obj := { cls := .type "set", dict := none, data := .set #[] 0 (.fresh 0 0 (!w.params.followText "set-order")) }
/-- set(t), t a tuple of tuples of ints -/
theorem set_of_tup {l : Addr} {items : Array Value} (ks : List (Addr × List Int)) {Q : Value → Shared → Prop} (hh : A.handled = none) (hl : s.heap.IsTuple l items) (hit : items.toList = ks.map fun p => Value.ref p.1)
    (hk : ∀ p ∈ ks, IsT P w s.heap p.2 p.1) (hfew : ks.length < 64) (hu : A.units + 3 < cLine)
    (h : ∀ (h' : Heap) (tk : Nat) L es ep t, SetTR P w h' s.heap.objs.size L es ep t → Got ks ks.length L → (∀ b o, s.heap.get? b = some o → h'.get? b = some o) → Q (.ref s.heap.objs.size) { s with heap := h', toks := tk }) :
    wpAny (model P w) A (call (.type "set") [.ref l]) Q E s := by
  have many : items.size = ks.length := by
    rw [← Array.length_toList, hit, List.length_map]
  obtain ⟨c, tl, hmro⟩ := F.called_set.mro
  have f1 := F.called_set.made
  have f2 := F.called_set.sub
  have f3 := F.called_set.notType
  have f4 := F.called_set.canCreate
  have f5 := F.typeCall_set_1 (.ref l)
  refine wpAny_call (codeAny_of_tree ?_)
  show wpAny _ _ (callAny (.type "set") _) _ _ _
  refine wpAny_pure ⟨Code.quiet_builtin _ (by decide +kernel), codeAny_builtin F.entry_type_call ?_⟩
  rw [Around.under_plain (weight_type_call_type "set" [.ref l] []) rfl]
  repeat (any_goals (first | assumption | wp_step))
  refine codeAny_mono (code_set_led1 (.ref l) (E := E) (Q₁ := fun obj s1 => obj = .ref s.heap.objs.size ∧ s1 = { s with heap := s.heap.push (set0 w) }) ⟨rfl, rfl⟩) fun r s1 hr => ?_
  cases r with
  | error e => exact hr
  | ok fl =>
    cases fl with
    | next => exact hr.elim
    | brk => exact hr.elim
    | cont => exact hr.elim
    | ret obj =>
      obtain ⟨rfl, rfl⟩ := hr
      have hS : (s.heap.push (set0 w)).get? s.heap.objs.size = some (set0 w) := Heap.get?_push_size _ rfl
      have hT : Shared.TypeIs { s with heap := s.heap.push (set0 w) } (.ref s.heap.objs.size) "set" := ⟨_, hS, rfl⟩
      have g1 := F.called_set.init.lookup
      have g2 := F.called_set.init.bind (.ref s.heap.objs.size)
      repeat (any_goals (first | assumption | wp_step))
      refine codeAny_mono (codeAny_call_builtin (R := wants (fun r s2 => r = .none ∧ ∃ h' tk L es ep t, s2 = { s with heap := h', toks := tk } ∧ SetTR P w h' s.heap.objs.size L es ep t ∧ Got ks ks.length L ∧ (∀ b o, s.heap.get? b = some o → h'.get? b = some o)) E)
        F.called_set.init.plain F.entry_set_init (check_set_init_1 hT ?_)) fun r2 s2 hr2 => ?_
      · obtain ⟨⟨ocls, odict, odata, oslots⟩, hol, hcl, nl, hdl⟩ := hl
        simp only at hcl hdl
        subst hcl hdl
        have hol' : (s.heap.push (set0 w)).get? l = some { cls := .type "tuple", dict := odict, data := .seq items nl, slots := oslots } := Heap.get?_push_of_some _ hol
        have k1 := F.sub_tuple_set
        have k2 := F.sub_tuple_frozenset
        have k3 : (Value.type "tuple" == Value.type "dict") = false := by decide
        have hl1 : (s.heap.push (set0 w)).IsTuple l items := ⟨_, hol', rfl, nl, rfl⟩
        unfold Builtin.«set.__init__» noKeywords Builtin.Frozenset.updateFrom
        generalize hPI : pyIter = PI
        wp_walk
        subst hPI
        refine wpAny_pyIter_tuple hl1 ?_
        refine wpAny_bind (wpAny_runValue ?_)
        have below : l < s.heap.objs.size := Heap.lt_size hol
        have sz1 : (s.heap.push (set0 w)).objs.size = s.heap.objs.size + 1 := Heap.size_push ..
        have calm : A.in1.in1.in1.handled = none := by simp [hh]
        have apart : s.heap.objs.size ∉ [(s.heap.push (set0 w)).objs.size, l] := by
          rw [sz1]
          simp only [List.mem_cons, List.not_mem_nil, or_false, not_or]
          exact ⟨Nat.ne_of_lt (Nat.lt_succ_self _), Nat.ne_of_gt below⟩
        have vals : ∀ (i : Nat) (v : Value), items[i]? = some v → ∃ p, ks[i]? = some p ∧ v = .ref p.1 := fun i v hv => by
          have q : items.toList[i]? = some v := by rw [Array.getElem?_toList]; exact hv
          rw [hit, List.getElem?_map] at q
          cases hq : ks[i]? with
          | none => rw [hq] at q; cases q
          | some p => rw [hq] at q; exact ⟨p, rfl, (Option.some.inj q).symm⟩
        have free : ∀ b, s.heap.objs.size ≤ b → s.heap.get? b = none := fun b hb => Heap.get?_none_of_le hb
        refine set_update_tups ((Walks.tuple calm _ l (by rw [sz1]; exact Nat.ne_of_lt (Nat.lt_succ_of_lt below)) items).toS) s.heap.objs.size apart ks many hfew vals s.heap hk (free _ (Nat.le_refl _))
          (fun b hb => free b (by rw [List.mem_singleton.mp hb, sz1]; exact Nat.le_succ _)) hu (items.size - 0) 0 _ (by omega) (Nat.zero_le _) ⟨⟨_, Heap.get?_push_size _ rfl, rfl, rfl⟩, (hl1.push _)⟩
          (fun b o e => Heap.get?_push_of_some _ (Heap.get?_push_of_some _ e)) ⟨[], #[], 0, _, setTR_fresh (Heap.get?_push_of_some _ hS), Got.zero ks⟩ fun s' L es ep t hm hS' g' hkp => ?_
        obtain ⟨h', g2, d', tk', os'⟩ := s'
        cases (show g2 = s.gens from hm.gens)
        cases (show d' = s.drawn from hm.drawn)
        cases (show os' = s.os from hm.os)
        refine wpAny_pure ?_
        show wpAny _ _ (ret Value.none) _ _ _
        rw [many] at g'
        exact wpAny_pure ⟨rfl, h', tk', L, es, ep, t, rfl, hS', g', hkp⟩
      · cases r2 with
        | error e => exact hr2
        | ok fl2 =>
          cases fl2 with
          | ret r =>
            obtain ⟨rfl, h', tk, L, es, ep, t, rfl, hS', g', hk'⟩ := hr2
            repeat (any_goals (first | assumption | wp_step))
            exact h _ _ _ _ _ _ hS' g' hk'
          | next => exact hr2.elim
          | brk => exact hr2.elim
          | cont => exact hr2.elim
end
end G9S

/-! Layer U: sorted, set as rules by data. -/
namespace G9
open PySem PySem.Spec PyProof.Rows L2

/-! ### orders, sorted lists (plain) -/
structure Sto {α : Type} (lt : α → α → Bool) : Prop where
  irr : ∀ a, lt a a = false
  tr : ∀ a b c, lt a b = true → lt b c = true → lt a c = true
  tot : ∀ a b, lt a b = false → lt b a = false → a = b
section
variable {α : Type} {lt : α → α → Bool}
def ins (lt : α → α → Bool) (x : α) : List α → List α
  | [] => [x]
  | y :: l => if lt y x then y :: ins lt x l else x :: y :: l
def isort (lt : α → α → Bool) : List α → List α
  | [] => []
  | x :: l => ins lt x (isort lt l)
/-- each once -/
def insU (lt : α → α → Bool) (x : α) : List α → List α
  | [] => [x]
  | y :: l => if lt x y then x :: y :: l else if lt y x then y :: insU lt x l else y :: l
def usort (lt : α → α → Bool) : List α → List α
  | [] => []
  | x :: l => insU lt x (usort lt l)
theorem Sto.asym (O : Sto lt) {a b : α} (h : lt a b = true) : lt b a = false := by
  cases e : lt b a with
  | false => rfl
  | true =>
    have := O.tr a b a h e
    rw [O.irr] at this
    cases this
theorem ins_perm (x : α) : ∀ l : List α, (ins lt x l).Perm (x :: l)
  | [] => List.Perm.refl _
  | y :: l => by
    unfold ins
    split
    · exact ((ins_perm x l).cons y).trans (List.Perm.swap x y l)
    · exact List.Perm.refl _
theorem isort_perm : ∀ l : List α, (isort lt l).Perm l
  | [] => List.Perm.refl _
  | x :: l => (ins_perm x _).trans ((isort_perm l).cons x)
theorem ins_mem {x y : α} {l : List α} : y ∈ ins lt x l ↔ y = x ∨ y ∈ l := by
  rw [(ins_perm x l).mem_iff, List.mem_cons]
theorem ins_le (O : Sto lt) (x : α) : ∀ l : List α, l.Pairwise (fun a b => lt b a = false) → (ins lt x l).Pairwise (fun a b => lt b a = false)
  | [], _ => List.pairwise_singleton _ _
  | y :: l, h => by
    obtain ⟨h1, h2⟩ := List.pairwise_cons.mp h
    unfold ins
    split
    · rename_i hyx
      refine List.pairwise_cons.mpr ⟨fun z hz => ?_, ins_le O x l h2⟩
      rcases ins_mem.mp hz with e | hz
      · rw [e]
        exact O.asym hyx
      · exact h1 z hz
    · rename_i hyx
      have hyx : lt y x = false := by simpa using hyx
      refine List.pairwise_cons.mpr ⟨fun z hz => ?_, h⟩
      rcases List.mem_cons.mp hz with e | hz
      · rw [e]
        exact hyx
      · cases e : lt z x with
        | false => rfl
        | true =>
          have hz1 := h1 z hz
          cases e2 : lt y z with
          | true =>
            rw [O.tr y z x e2 e] at hyx
            cases hyx
          | false =>
            rw [O.tot y z e2 hz1, e] at hyx
            cases hyx
theorem isort_le (O : Sto lt) : ∀ l : List α, (isort lt l).Pairwise (fun a b => lt b a = false)
  | [] => List.Pairwise.nil
  | x :: l => ins_le O x _ (isort_le O l)
theorem sorted_eq (O : Sto lt) {a b : List α} (p : a.Perm b) (h : a.Pairwise (fun x y => lt y x = false)) : a = isort lt b :=
  List.Perm.eq_of_pairwise (le := fun x y => lt y x = false) (fun x y _ _ h1 h2 => O.tot x y h2 h1) h (isort_le O b) (p.trans (isort_perm b).symm)
theorem insU_mem (O : Sto lt) {x y : α} : ∀ {l : List α}, y ∈ insU lt x l ↔ y = x ∨ y ∈ l
  | [] => by simp [insU]
  | z :: l => by
    unfold insU
    split
    · rw [List.mem_cons]
    · split
      · rw [List.mem_cons, insU_mem O (l := l), List.mem_cons]
        constructor
        · rintro (e | e | e)
          · exact .inr (.inl e)
          · exact .inl e
          · exact .inr (.inr e)
        · rintro (e | e | e)
          · exact .inr (.inl e)
          · exact .inl e
          · exact .inr (.inr e)
      · rename_i h1 h2
        have e : x = z := O.tot x z (by simpa using h1) (by simpa using h2)
        rw [List.mem_cons]
        constructor
        · exact .inr
        · rintro (q | q)
          · rw [q, e]
            exact .inl rfl
          · exact q
theorem usort_mem (O : Sto lt) {y : α} : ∀ {l : List α}, y ∈ usort lt l ↔ y ∈ l
  | [] => by simp [usort]
  | x :: l => by
    unfold usort
    rw [insU_mem O, usort_mem O (l := l), List.mem_cons]
theorem insU_lt (O : Sto lt) (x : α) : ∀ l : List α, l.Pairwise (fun a b => lt a b = true) → (insU lt x l).Pairwise (fun a b => lt a b = true)
  | [], _ => List.pairwise_singleton _ _
  | y :: l, h => by
    obtain ⟨h1, h2⟩ := List.pairwise_cons.mp h
    unfold insU
    split
    · rename_i hxy
      refine List.pairwise_cons.mpr ⟨fun z hz => ?_, h⟩
      rcases List.mem_cons.mp hz with e | hz
      · rw [e]
        exact hxy
      · exact O.tr x y z hxy (h1 z hz)
    · split
      · rename_i h3 hyx
        refine List.pairwise_cons.mpr ⟨fun z hz => ?_, insU_lt O x l h2⟩
        rcases (insU_mem O).mp hz with e | hz
        · rw [e]
          exact hyx
        · exact h1 z hz
      · exact h
theorem usort_lt (O : Sto lt) : ∀ l : List α, (usort lt l).Pairwise (fun a b => lt a b = true)
  | [] => List.Pairwise.nil
  | x :: l => insU_lt O x _ (usort_lt O l)
theorem lt_nodup (O : Sto lt) {l : List α} (h : l.Pairwise (fun a b => lt a b = true)) : l.Nodup := h.imp fun {a b} q e => by
  rw [e, O.irr] at q
  cases q
theorem strict_eq (O : Sto lt) {a b : List α} (ha : a.Pairwise (fun x y => lt x y = true)) (hb : b.Pairwise (fun x y => lt x y = true)) (h : ∀ x, x ∈ a ↔ x ∈ b) : a = b :=
  List.Perm.eq_of_pairwise (le := fun x y => lt x y = true) (fun x y _ _ h1 h2 => by
    rw [O.asym h1] at h2
    cases h2) ha hb ((List.perm_ext_iff_of_nodup (lt_nodup O ha) (lt_nodup O hb)).mpr h)
theorem usort_eq (O : Sto lt) {a b : List α} (ha : a.Pairwise (fun x y => lt x y = true)) (h : ∀ x, x ∈ a ↔ x ∈ b) : a = usort lt b :=
  strict_eq O ha (usort_lt O b) fun x => (h x).trans (usort_mem O).symm
end
def ltI (a b : Int) : Bool := decide (a < b)
theorem stoI : Sto ltI := ⟨fun a => decide_eq_false (Int.lt_irrefl a), fun a b c h1 h2 => decide_eq_true (Int.lt_trans (of_decide_eq_true h1) (of_decide_eq_true h2)), fun a b h1 h2 => by
  have := of_decide_eq_false h1
  have := of_decide_eq_false h2
  omega⟩
theorem lexLt_tot : ∀ a b : List Int, HT.lexLt a b = false → HT.lexLt b a = false → a = b
  | [], [], _, _ => rfl
  | [], y :: ys, h, _ => by rw [HT.lexLt_nil_cons] at h; cases h
  | x :: xs, [], _, h => by rw [HT.lexLt_nil_cons] at h; cases h
  | x :: xs, y :: ys, h1, h2 => by
    rw [HT.lexLt_cons] at h1 h2
    by_cases e : x = y
    · subst e
      rw [if_pos rfl] at h1 h2
      rw [lexLt_tot xs ys h1 h2]
    · rw [if_neg e] at h1
      rw [if_neg (fun z => e z.symm)] at h2
      have := of_decide_eq_false h1
      have := of_decide_eq_false h2
      omega
theorem stoL : Sto HT.lexLt := by
  have irr : ∀ a : List Int, HT.lexLt a a = false := fun a => by
    cases e : HT.lexLt a a with
    | false => rfl
    | true =>
      have := NtL.lex_asym a a e
      rw [e] at this
      cases this
  refine ⟨irr, fun a b c h1 h2 => ?_, lexLt_tot⟩
  cases e : HT.lexLt a c with
  | true => rfl
  | false =>
    have q := NtL.lex_asym b c h2
    have z := NtL.lex_tr b c a q e
    rw [h1] at z
    cases z
end G9
namespace G9S
open PySem PySem.Spec PyProof.Rows L2 G9
section
variable {X : Cx}
theorem state_eta {s s' : Shared} (ho : s'.os = s.os) : s' = { s with heap := s'.heap, gens := s'.gens, drawn := s'.drawn, toks := s'.toks } := by
  cases s'
  cases s
  cases ho
  rfl
/-- behind sorted(..): the new list -/
theorem Sor.inv {pins : List (Addr × Obj)} {σ : L2.St} {H : Hp} {s s2 : Shared} {ltv : Value → Value → Bool} {P : List Value → Prop} {p : Addr} {out : List Value} {ys : List V} (I : Inv X pins σ H s) (S : Sor s ltv P p out s2) (rv : Vals ys out) (hz : ys.length ≤ sizeLine) :
    Inv X pins σ (upd H p (.lst ys)) s2 ∧ H p = none := by
  have hn : H p = none := I.hok.fresh S.new
  obtain ⟨c, hc⟩ := S.obj
  have J : Inv X pins σ (upd H p (.lst ys)) { s with heap := s2.heap, gens := s2.gens, drawn := s2.drawn, toks := s2.toks } :=
    I.call (ch := []) (Un.laid S.keep S.new hn) (I.hok.laid S.keep S.new ⟨hz, out, c, rv, hc⟩) (by rw [S.gens]; exact I.bare) (fun _ z => nomatch z)
  rw [state_eta S.os]
  exact ⟨J, hn⟩
/-- the ints of a value that is a tuple of ints -/
noncomputable def keyT (h : Heap) (v : Value) : List Int := by
  classical exact if q : ∃ ns, TI h v ns then q.choose else []
theorem ti_one {h : Heap} {v : Value} {a b : List Int} (x : TI h v a) (y : TI h v b) : a = b := by
  obtain ⟨p, its, rfl, ⟨o, ho, hc, n, hd⟩, hi⟩ := x
  obtain ⟨p', its', e, ⟨o', ho', hc', n', hd'⟩, hi'⟩ := y
  cases e
  rw [ho] at ho'
  cases ho'
  rw [hd] at hd'
  cases hd'
  have e1 := SrtO.iv_ints hi
  have e2 := SrtO.iv_ints hi'
  rw [← e1, ← e2]
theorem keyT_of {h : Heap} {v : Value} {ns : List Int} (x : TI h v ns) : keyT h v = ns := by
  unfold keyT
  rw [dif_pos ⟨ns, x⟩]
  exact ti_one (Exists.choose_spec (p := fun ns => TI h v ns) ⟨ns, x⟩) x
theorem Inv.ti {pins : List (Addr × Obj)} {σ : L2.St} {H : Hp} {s : Shared} {b : Addr} {k : List Int} (I : Inv X pins σ H s) (h : SqT X.K H b (k.map V.int)) : TI s.heap (.ref b) k := by
  obtain ⟨its, r, ht, _⟩ := I.tuple h
  exact ⟨b, its.toArray, rfl, ht, by simpa using r.ints⟩
/-- tuples of ints can be sorted -/
theorem ti_sortable {prog : Program} {w : World} {A : Around} {s s1 : Shared} {P : List Value → Prop} {vs : List Value} {a : Addr} (C : Col s P vs s1) (h2 : 2 ≤ vs.length) (hu : A.units < cLine) (ha : s1.heap.get? a = some (seqObj "list" vs.toArray 0)) (hv : ∀ v ∈ vs, ∃ ns, TI s.heap v ns) :
    SrtO.SortableO prog w A s1 a vs (fun v u => HT.lexLt (keyT s.heap v) (keyT s.heap u)) := by
  intro h' keep
  refine kind_any (s := { s1 with heap := h' }) h2 hu fun v hm => ?_
  obtain ⟨ns, x⟩ := hv v hm
  rw [keyT_of x]
  refine x.keep fun b o e c => keep b o (fun z => ?_) (C.keep b o e)
  subst z
  rw [C.keep b o e] at ha
  cases ha
  exact absurd c (by simp [seqObj])
/-- sorted(l), l a list of tuples of ints -/
def rSortLT (K : PySem.W.Frag) : List V → Hp → VK → Prop := fun vs H Q => ∃ (a : Addr) (ks : List (Addr × List Int)), vs = [V.ref a] ∧ SqL K H a (ks.map fun p => V.ref p.1) ∧ (∀ p ∈ ks, SqT K H p.1 (p.2.map V.int)) ∧
  ∀ (ks' : List (Addr × List Int)) (p : Addr), (∀ q ∈ ks', q ∈ ks) → ks'.map (·.2) = isort HT.lexLt (ks.map (·.2)) → H p = none → Q (.ref p) (upd H p (.lst (ks'.map fun p => V.ref p.1)))
/-- the values found again -/
theorem back {h : Heap} {ks : List (Addr × List Int)} (hk : ∀ p ∈ ks, TI h (.ref p.1) p.2) : ∀ {out : List Value}, (∀ v ∈ out, v ∈ ks.map fun p => Value.ref p.1) → ∃ ks' : List (Addr × List Int), out = ks'.map (fun p => Value.ref p.1) ∧ (∀ q ∈ ks', q ∈ ks) ∧ ks'.map (·.2) = out.map (keyT h)
  | [], _ => ⟨[], rfl, (fun q hq => nomatch hq), rfl⟩
  | v :: out, hv => by
    obtain ⟨ks', e1, e2, e3⟩ := back hk (out := out) fun u hu => hv u (List.mem_cons_of_mem _ hu)
    obtain ⟨p, hp, e⟩ := List.mem_map.mp (hv v List.mem_cons_self)
    refine ⟨p :: ks', by rw [List.map_cons, e, ← e1], fun q hq => ?_, ?_⟩
    · rcases List.mem_cons.mp hq with z | z
      · rw [z]
        exact hp
      · exact e2 q z
    · rw [List.map_cons, List.map_cons, e3, ← e, keyT_of (hk p hp)]
theorem keys_of {h : Heap} : ∀ {ks : List (Addr × List Int)}, (∀ p ∈ ks, TI h (.ref p.1) p.2) → (ks.map fun p => Value.ref p.1).map (keyT h) = ks.map (·.2)
  | [], _ => rfl
  | p :: ks, hk => by
    rw [List.map_cons, List.map_cons, List.map_cons, keys_of fun q hq => hk q (List.mem_cons_of_mem _ hq), keyT_of (hk p List.mem_cons_self)]
theorem srt_keys {ltv : Value → Value → Bool} {h : Heap} {out vs : List Value} (el : ltv = fun v u => HT.lexLt (keyT h v) (keyT h u)) (h1 : SrtO.Srtd ltv out) (h2 : out.Perm vs) : out.map (keyT h) = isort HT.lexLt (vs.map (keyT h)) :=
  sorted_eq stoL (h2.map _) (List.pairwise_map.mpr (by rw [el] at h1; exact h1))
theorem cr_sortLT (hu : X.A.units + 64 < cLine) : CallR X (.builtin "sorted") (rSortLT X.K) := by
  intro pins s σ H vs us Q I r h
  obtain ⟨a, ks, rfl, hs, hk, q⟩ := h
  rw [Vals.ref1 r]
  obtain ⟨its, rv, pl, hz⟩ := I.list hs
  have e1 : its = ks.map fun p => Value.ref p.1 := refs_of_vals rv
  have hk' : ∀ p ∈ ks, TI s.heap (.ref p.1) p.2 := fun p hp => Inv.ti I (hk p hp)
  refine sorted_by (P := fun us => us = its) (ltv := fun v u => HT.lexLt (keyT s.heap v) (keyT s.heap u)) (NtL.swo_lexL _) (fun vs e => by rw [e, ← rv.length]; exact hz) (col_list pl.isList (by rw [← rv.length]; exact hz)) (fun vs s1 a C h2 ha _ => ?_) fun p out s2 S => ?_
  · refine ti_sortable C h2 (by show X.A.units + _ + _ < cLine; omega) ha fun v hm => ?_
    rw [C.held, e1] at hm
    obtain ⟨p, hp, e⟩ := List.mem_map.mp hm
    exact ⟨p.2, e ▸ hk' p hp⟩
  · obtain ⟨vs, ev, hb⟩ := S.per
    rw [ev, e1] at hb
    obtain ⟨ks', e2, e3, e4⟩ := back hk' (out := out) fun v hv => hb.perm.mem_iff.mp hv
    have e5 := srt_keys rfl S.ord hb.perm
    rw [keys_of hk', ← e4] at e5
    have hlen : (ks'.map fun p => V.ref p.1).length ≤ sizeLine := by
      rw [List.length_map] at hz ⊢
      have := congrArg List.length e5
      rw [List.length_map, (isort_perm _).length_eq, List.length_map] at this
      omega
    obtain ⟨J, hn⟩ := Sor.inv I S (by rw [e2]; exact vals_of_refs ks') hlen
    exact ⟨.ref p, _, J, rfl, q ks' p e3 e5 hn⟩
end
end G9S

namespace G9S
open PySem PySem.Spec PyProof.Rows L2 G9
section
variable {X : Cx}
/-- sorted(t), t a tuple of ints -/
def rSortTI (K : PySem.W.Frag) : List V → Hp → VK → Prop := fun vs H Q => ∃ (a : Addr) (ns : List Int), vs = [V.ref a] ∧ SqT K H a (ns.map V.int) ∧ ∀ p : Addr, H p = none → Q (.ref p) (upd H p (.lst ((isort ltI ns).map V.int)))
theorem cr_sortTI : CallR X (.builtin "sorted") (rSortTI X.K) := by
  intro pins s σ H vs us Q I r h
  obtain ⟨a, ns, rfl, hs, q⟩ := h
  rw [Vals.ref1 r]
  obtain ⟨its, rv, ht, hz⟩ := I.tuple hs
  have hi := rv.ints
  refine sorted_by (P := fun us => us = its) (ltv := SrtO.ltIv) SrtO.swo_int (fun vs e => by rw [e, ← rv.length]; exact hz) (col_tup ht (by rw [← rv.length]; exact hz)) (fun vs s1 a C h2 ha _ => ?_) fun p out s2 S => ?_
  · have e := C.held
    subst e
    exact SrtO.ints_sortable hi h2
  · obtain ⟨vs, e, hb⟩ := S.per
    subst e
    obtain ⟨k1, k2, k3⟩ := SrtO.ints_out hi S.ord hb
    have e2 : out.map SrtO.iv = isort ltI ns := sorted_eq stoI k2 (k3.imp fun {x y} z => decide_eq_false (by omega))
    rw [e2] at k1
    have hlen : ((isort ltI ns).map V.int).length ≤ sizeLine := by
      rw [List.length_map] at hz ⊢
      rw [(isort_perm ns).length_eq]
      exact hz
    obtain ⟨J, hn⟩ := Sor.inv I S (vals_of_ints k1) hlen
    exact ⟨.ref p, _, J, rfl, q p hn⟩
/-- set(t), t a tuple of ints -/
def rSetTI (K : PySem.W.Frag) (w : World) : List V → Hp → VK → Prop := fun vs H Q => ∃ (a : Addr) (ns : List Int), vs = [V.ref a] ∧ SqT K H a (ns.map V.int) ∧ ns.length ≤ 1000 ∧ ∀ (p : Addr) (c : Nat), c ≤ ns.length → H p = none → Q (.ref p) (upd H p (SetO w p (fun j => decide (j ∈ ns)) c))
theorem cr_setTI (hc : X.calm = true) : CallR X (.type "set") (rSetTI X.K X.w) := by
  intro pins s σ H vs us Q I r h
  obtain ⟨a, ns, rfl, hs, hl, q⟩ := h
  rw [Vals.ref1 r]
  obtain ⟨its, rv, ht, hz⟩ := I.tuple hs
  have hi : IntsAre its.toArray.toList ns := by simpa using rv.ints
  refine call_set_tupI ns (I.ok.hd hc) (show s.heap.IsTuple a its.toArray from ht) hi (by unfold scanBound; omega) fun h' tk c R hcn k => ?_
  exact ⟨.ref s.heap.objs.size, _, I.laid (t' := tk) k (Nat.le_refl _) (setO_new R), rfl, q _ c hcn (I.hok.fresh (Nat.le_refl _))⟩
/-- set(t), t a tuple of tuples of ints -/
def rSetTT (K : PySem.W.Frag) (P : Program) (w : World) : List V → Hp → VK → Prop := fun vs H Q => ∃ (a : Addr) (ks : List (Addr × List Int)), vs = [V.ref a] ∧ SqT K H a (ks.map fun p => V.ref p.1) ∧ (∀ p ∈ ks, SqT K H p.1 (p.2.map V.int)) ∧ ks.length < 64 ∧
  ∀ p L, H p = none → (∀ q ∈ L, q ∈ ks) → (∀ q ∈ ks, q.2 ∈ L.map (·.2)) → Q (.ref p) (upd H p (SetTO P w p L))
theorem cr_setTT (hc : X.calm = true) (hu : X.A.units + 64 < cLine) : CallR X (.type "set") (rSetTT X.K X.prog X.w) := by
  intro pins s σ H vs us Q I r h
  obtain ⟨a, ks, rfl, hs, hk, hf, q⟩ := h
  rw [Vals.ref1 r]
  obtain ⟨its, rv, ht, hz⟩ := I.tuple hs
  refine set_of_tup (P := X.prog) (w := X.w) ks (I.ok.hd hc) (show s.heap.IsTuple a its.toArray from ht) (by simpa using refs_of_vals rv) (fun p hp => Inv.isT I (hk p hp)) hf (by omega) fun h' tk L es ep t R g k => ?_
  refine ⟨.ref s.heap.objs.size, _, I.laid (t' := tk) k (Nat.le_refl _) (setTO_new R.t0), rfl, q _ L (I.hok.fresh (Nat.le_refl _)) (fun p hp => List.mem_of_mem_take (g.sub p hp)) fun p hp => g.all p ?_⟩
  rw [List.take_length]
  exact hp
/-- sorted(s), s a set of tuples of ints -/
def rSortST (K : PySem.W.Frag) (P : Program) (w : World) : List V → Hp → VK → Prop := fun vs H Q => ∃ (a : Addr) (L : List (Addr × List Int)), vs = [V.ref a] ∧ H a = some (SetTO P w a L) ∧ (∀ p ∈ L, SqT K H p.1 (p.2.map V.int)) ∧
  ∀ (L' : List (Addr × List Int)) (p : Addr), (∀ q ∈ L', q ∈ L) → L'.map (·.2) = usort HT.lexLt (L.map (·.2)) → H p = none → Q (.ref p) (upd H p (.lst (L'.map fun p => V.ref p.1)))
theorem cr_sortST (hc : X.calm = true) (hu : X.A.units + 64 < cLine) : CallR X (.builtin "sorted") (rSortST X.K X.prog X.w) := by
  intro pins s σ H vs us Q I r h
  obtain ⟨a, L, rfl, ha, hk, q⟩ := h
  have R0 : SetT0 X.prog X.w s.heap a L := (I.hok a _ ha).1
  obtain ⟨es, ep, t, R⟩ := R0.full fun p hp => Inv.isT I (hk p hp)
  rw [Vals.ref1 r]
  have hk' : ∀ p ∈ L, TI s.heap (.ref p.1) p.2 := fun p hp => Inv.ti I (hk p hp)
  have hes : es.toList.map (·.2) = L.map fun q => Value.ref q.1 := by
    rw [R.rows]
    unfold rowsOf
    rw [List.map_map]
    rfl
  obtain ⟨o, ho, hex, hd⟩ := R.ob
  have few := R.few
  have hlen : ∀ vs : List Value, vs.Perm (L.map fun q => Value.ref q.1) → vs.length < 64 := fun vs p => by
    rw [p.length_eq, List.length_map]
    exact few
  refine sorted_by (P := fun us => us.Perm (L.map fun q => Value.ref q.1)) (ltv := fun v u => HT.lexLt (keyT s.heap v) (keyT s.heap u)) (NtL.swo_lexL _) (fun vs e => by rw [sizeLine_eq]; have := hlen vs e; omega)
    (collect_set (A := X.A.in1) (I.ok.hd hc) ⟨o, ho, hex.1, hd⟩ R.fits (by have := R.size; unfold scanBound; omega) R.tab.ris R.led fun s1 vs k1 hz g1 o1 pm => ⟨k1, hz, g1, o1, by rw [hes] at pm; exact pm⟩) (fun vs s1 a C h2 ha _ => ?_) fun p out s2 S => ?_
  · refine ti_sortable C h2 (by show X.A.units + _ + _ < cLine; omega) ha fun v hm => ?_
    obtain ⟨p, hp, e⟩ := List.mem_map.mp (C.held.mem_iff.mp hm)
    exact ⟨p.2, e ▸ hk' p hp⟩
  · obtain ⟨vs, ev, hb⟩ := S.per
    have pm := hb.perm.trans ev
    obtain ⟨L', e2, e3, e4⟩ := back hk' (out := out) fun v hv => pm.mem_iff.mp hv
    have e5 := srt_keys rfl S.ord pm
    rw [keys_of hk', ← e4] at e5
    have nd : (L.map (·.2)).Nodup := R.nd
    have e6 : L'.map (·.2) = usort HT.lexLt (L.map (·.2)) := by
      refine usort_eq stoL ?_ fun x => ?_
      · rw [e5]
        have h1 := isort_le stoL (L.map (·.2))
        have h2 : (isort HT.lexLt (L.map (·.2))).Nodup := (isort_perm _).nodup_iff.mpr nd
        refine (h1.and h2).imp fun {x y} z => ?_
        cases e : HT.lexLt x y with
        | true => rfl
        | false => exact absurd (stoL.tot x y e z.1) z.2
      · rw [e5]
        exact (isort_perm _).mem_iff
    have hl2 : (L'.map fun p => V.ref p.1).length ≤ sizeLine := by
      rw [List.length_map, sizeLine_eq]
      have := congrArg List.length e5
      rw [List.length_map, (isort_perm _).length_eq, List.length_map] at this
      omega
    obtain ⟨J, hn⟩ := Sor.inv I S (by rw [e2]; exact vals_of_refs L') hl2
    exact ⟨.ref p, _, J, rfl, q L' p e3 e6 hn⟩
end
end G9S
namespace G9
open PySem PySem.Spec PyProof.Rows L2 G9S
/-! ### by data -/
/-- a set, a row of sets -/
abbrev dS (s : List Int) : D := .tup (s.map D.int)
abbrev dF (f : List (List Int)) : D := .tup (f.map dS)
section
variable {X : Cx} {H0 : Hp} {ρ : Ro} {e : Expr} {pos p p2 p3 : Pos} {ns : List Int} {ks : List (List Int)}
/-- items that are sets: their addresses -/
theorem rp_sets {K : PySem.W.Frag} {G : Hp} : ∀ {ks : List (List Int)} {vs : List V}, RpL K G vs (ks.map dS) → ∃ ps : List (Addr × List Int), vs = (ps.map fun p => V.ref p.1) ∧ ps.map (·.2) = ks ∧ ∀ p ∈ ps, SqT K G p.1 (p.2.map V.int)
  | [], _, .nil => ⟨[], rfl, rfl, fun p hp => nomatch hp⟩
  | k :: ks, _, .cons r t => by
    obtain ⟨ps, e1, e2, e3⟩ := rp_sets t
    obtain ⟨a, xs, e4, h, r2⟩ := r.tup_of
    have e5 := r2.ints_of
    subst e5
    refine ⟨(a, k) :: ps, by rw [List.map_cons, e4, e1], by rw [List.map_cons, e2], fun q hq => ?_⟩
    rcases List.mem_cons.mp hq with z | z
    · rw [z]
      exact h
    · exact e3 q z
theorem sets_rp {K : PySem.W.Frag} {G : Hp} : ∀ {ps : List (Addr × List Int)}, (∀ p ∈ ps, SqT K G p.1 (p.2.map V.int)) → RpL K G (ps.map fun p => V.ref p.1) ((ps.map (·.2)).map dS)
  | [], _ => .nil
  | q :: ps, h => .cons (.tup (h q List.mem_cons_self) (RpL.ints _)) (sets_rp fun z hz => h z (List.mem_cons_of_mem _ hz))
/-- sorted(tuple of ints) -/
theorem l_sortTI (hm : X.mg "sorted" = none) (h : Ev X H0 ρ e (dS ns)) (hg : Gl X "sorted" := by rfl) (he : starEach [e] X.env = (false, eval e X.env) :: starEach [] X.env := by rfl) (hpl : (backTo pos (starEach [] X.env)).any (·.1) = false := by rfl) :
    EvL X H0 ρ (.Call (.Name "sorted" p) [e] [] pos) ((isort ltI ns).map D.int) :=
  l_callB cr_sortTI hm (a_cons h a_nil he) (fun xs G H _ s r Q q => by
    cases r with
    | cons r1 r2 =>
      cases r2
      obtain ⟨a, xs, rfl, hs, r⟩ := r1.tup_of
      obtain rfl := r.ints_of
      exact ⟨a, ns, rfl, Same.sqT s hs, fun p hp => q p _ _ _ (Fr.newH s hp) hp (s.free hp) upd_same (RpL.ints _)⟩) (by decide +kernel) hg (by decide) (by decide) he hpl
/-- sorted(list of ints) -/
theorem l_sortI (hm : X.mg "sorted" = none) (h : Ev X H0 ρ e (.lst (ns.map D.int))) (hg : Gl X "sorted" := by rfl) (he : starEach [e] X.env = (false, eval e X.env) :: starEach [] X.env := by rfl) (hpl : (backTo pos (starEach [] X.env)).any (·.1) = false := by rfl) :
    EvL X H0 ρ (.Call (.Name "sorted" p) [e] [] pos) ((isort ltI ns).map D.int) :=
  l_callB cr_sortedI hm (a_cons h a_nil he) (fun xs G H _ s r Q q => by
    cases r with
    | cons r1 r2 =>
      cases r2
      obtain ⟨a, xs, rfl, hs, r⟩ := r1.lst_of
      obtain rfl := r.ints_of
      refine ⟨a, ns, rfl, SqL.of (s _ _ hs), fun ns' p k1 k2 hp => ?_⟩
      rw [sorted_eq stoI k1 (k2.imp fun {x y} z => decide_eq_false (by omega))]
      exact q p _ _ _ (Fr.newH s hp) hp (s.free hp) upd_same (RpL.ints _)) (by decide +kernel) hg (by decide) (by decide) he hpl
/-- sorted(list of sets) -/
theorem l_sortLT (hu : X.A.units + 64 < cLine) (hm : X.mg "sorted" = none) (h : Ev X H0 ρ e (.lst (ks.map dS))) (hg : Gl X "sorted" := by rfl) (he : starEach [e] X.env = (false, eval e X.env) :: starEach [] X.env := by rfl) (hpl : (backTo pos (starEach [] X.env)).any (·.1) = false := by rfl) :
    EvL X H0 ρ (.Call (.Name "sorted" p) [e] [] pos) ((isort HT.lexLt ks).map dS) :=
  l_callB (cr_sortLT hu) hm (a_cons h a_nil he) (fun xs G H _ s r Q q => by
    cases r with
    | cons r1 r2 =>
      cases r2
      obtain ⟨a, xs, rfl, hs, r⟩ := r1.lst_of
      obtain ⟨ps, e1, e2, e3⟩ := rp_sets r
      subst e1
      refine ⟨a, ps, rfl, SqL.of (s _ _ hs), fun z hz => Same.sqT s (e3 z hz), fun ks' p k1 k2 hp => ?_⟩
      refine q p _ _ _ (Fr.newH s hp) hp (s.free hp) upd_same ?_
      rw [← e2, ← k2]
      exact sets_rp fun z hz => e3 z (k1 z hz)) (by decide +kernel) hg (by decide) (by decide) he hpl
/-- sorted(set(tuple of ints)) -/
theorem l_sortSetTI (hm : X.mg "sorted" = none) (hm2 : X.mg "set" = none) (h : Ev X H0 ρ e (dS ns)) (hz : ns.length < 64) (hc : X.calm = true := by rfl) (hg : Gl X "sorted" := by rfl) (hg2 : Gl X "set" := by rfl) (he : starEach [e] X.env = (false, eval e X.env) :: starEach [] X.env := by rfl)
    (hpl : (backTo p2 (starEach [] X.env)).any (·.1) = false := by rfl) (he2 : starEach [.Call (.Name "set" p3) [e] [] p2] X.env = (false, eval (.Call (.Name "set" p3) [e] [] p2) X.env) :: starEach [] X.env := by rfl) (hpl2 : (backTo pos (starEach [] X.env)).any (·.1) = false := by rfl) :
    EvL X H0 ρ (.Call (.Name "sorted" p) [.Call (.Name "set" p3) [e] [] p2] [] pos) ((usort ltI ns).map D.int) := fun σ G H sg sh en Q q => by
  refine wE_of (pe_callB (cr_sortedSet hc) hg hm (by decide +kernel) (pa_cons (pe_callTy (cr_setTI hc) hg2 hm2 (by decide +kernel) (pa_cons pw pa_nil he) (by decide) (by decide) he hpl) pa_nil he2) (by decide) (by decide) he2 hpl2) ?_
  refine h σ G H sg sh en _ fun v G1 H1 f1 r1 => ?_
  obtain ⟨a, xs, rfl, hs, r⟩ := r1.tup_of
  obtain rfl := r.ints_of
  refine ⟨a, ns, rfl, Same.sqT f1.s hs, by omega, fun b c hcl hb => ?_⟩
  have f2 : Fr G1 H1 G1 (upd H1 b (SetO X.w b (fun j => decide (j ∈ ns)) c)) := Fr.newH f1.s hb
  refine ⟨b, _, c, rfl, upd_same, by omega, fun ms l k1 k2 k3 hl => ?_⟩
  have f3 := Fr.newH (o := .lst (ms.map V.int)) f2.s hl
  refine q l _ _ _ ((f1.trans f2).trans f3) ((f1.trans f2).h.free hl) (f2.s.free hl) upd_same ?_
  rw [usort_eq stoI (b := ns) (k1.imp fun {x y} z => decide_eq_true z) fun x => (k2 x).trans decide_eq_true_iff]
  exact RpL.ints _
/-- sorted(set(..)) of a tuple, of a list of sets -/
theorem l_sortSetTT (hu : X.A.units + 64 < cLine) (hm : X.mg "sorted" = none) (hm2 : X.mg "set" = none) (h : Ev X H0 ρ e (dF ks)) (hz : ks.length < 64) (hc : X.calm = true := by rfl) (hg : Gl X "sorted" := by rfl) (hg2 : Gl X "set" := by rfl) (he : starEach [e] X.env = (false, eval e X.env) :: starEach [] X.env := by rfl)
    (hpl : (backTo p2 (starEach [] X.env)).any (·.1) = false := by rfl) (he2 : starEach [.Call (.Name "set" p3) [e] [] p2] X.env = (false, eval (.Call (.Name "set" p3) [e] [] p2) X.env) :: starEach [] X.env := by rfl) (hpl2 : (backTo pos (starEach [] X.env)).any (·.1) = false := by rfl) :
    EvL X H0 ρ (.Call (.Name "sorted" p) [.Call (.Name "set" p3) [e] [] p2] [] pos) ((usort HT.lexLt ks).map dS) := fun σ G H sg sh en Q q => by
  refine wE_of (pe_callB (cr_sortST hc hu) hg hm (by decide +kernel) (pa_cons (pe_callTy (cr_setTT hc hu) hg2 hm2 (by decide +kernel) (pa_cons pw pa_nil he) (by decide) (by decide) he hpl) pa_nil he2) (by decide) (by decide) he2 hpl2) ?_
  refine h σ G H sg sh en _ fun v G1 H1 f1 r1 => ?_
  obtain ⟨a, xs, rfl, hs, r⟩ := r1.tup_of
  obtain ⟨ps, e1, e2, e3⟩ := rp_sets r
  subst e1
  have hl : ps.length = ks.length := by rw [← e2, List.length_map]
  refine ⟨a, ps, rfl, Same.sqT f1.s hs, fun z hz => Same.sqT f1.s (e3 z hz), by omega, fun b L hb hL1 hL2 => ?_⟩
  have f2 : Fr G1 H1 G1 (upd H1 b (SetTO X.prog X.w b L)) := Fr.newH f1.s hb
  refine ⟨b, L, rfl, upd_same, fun z hz => Same.sqT f2.s (e3 z (hL1 z hz)), fun L' l k1 k2 hl => ?_⟩
  have f3 := Fr.newH (o := .lst (L'.map fun p => V.ref p.1)) f2.s hl
  refine q l _ _ _ ((f1.trans f2).trans f3) ((f1.trans f2).h.free hl) (f2.s.free hl) upd_same ?_
  have e4 : usort HT.lexLt ks = L'.map (·.2) := by
    rw [k2]
    refine strict_eq stoL (usort_lt stoL _) (usort_lt stoL _) fun x => ?_
    rw [usort_mem stoL, usort_mem stoL, ← e2]
    exact ⟨fun hx => by obtain ⟨z, hz, e⟩ := List.mem_map.mp hx; exact e ▸ hL2 z hz, fun hx => by obtain ⟨z, hz, e⟩ := List.mem_map.mp hx; exact List.mem_map.mpr ⟨z, hL1 z hz, e⟩⟩
  rw [e4]
  exact sets_rp fun z hz => e3 z (hL1 z (k1 z hz))
theorem l_sortSetLT (hu : X.A.units + 64 < cLine) (hm : X.mg "sorted" = none) (hm2 : X.mg "set" = none) (h : Ev X H0 ρ e (.lst (ks.map dS))) (hz : ks.length < 64) (hc : X.calm = true := by rfl) (hg : Gl X "sorted" := by rfl) (hg2 : Gl X "set" := by rfl) (he : starEach [e] X.env = (false, eval e X.env) :: starEach [] X.env := by rfl)
    (hpl : (backTo p2 (starEach [] X.env)).any (·.1) = false := by rfl) (he2 : starEach [.Call (.Name "set" p3) [e] [] p2] X.env = (false, eval (.Call (.Name "set" p3) [e] [] p2) X.env) :: starEach [] X.env := by rfl) (hpl2 : (backTo pos (starEach [] X.env)).any (·.1) = false := by rfl) :
    EvL X H0 ρ (.Call (.Name "sorted" p) [.Call (.Name "set" p3) [e] [] p2] [] pos) ((usort HT.lexLt ks).map dS) := fun σ G H sg sh en Q q => by
  refine wE_of (pe_callB (cr_sortST hc hu) hg hm (by decide +kernel) (pa_cons (pe_callTy (cr_setOfT hc hu) hg2 hm2 (by decide +kernel) (pa_cons pw pa_nil he) (by decide) (by decide) he hpl) pa_nil he2) (by decide) (by decide) he2 hpl2) ?_
  refine h σ G H sg sh en _ fun v G1 H1 f1 r1 => ?_
  obtain ⟨a, xs, rfl, hs, r⟩ := r1.lst_of
  obtain ⟨ps, e1, e2, e3⟩ := rp_sets r
  subst e1
  have hl : ps.length = ks.length := by rw [← e2, List.length_map]
  refine ⟨a, ps, rfl, SqL.of (f1.s _ _ hs), fun z hz => Same.sqT f1.s (e3 z hz), by omega, fun b L hb hL1 hL2 => ?_⟩
  have f2 : Fr G1 H1 G1 (upd H1 b (SetTO X.prog X.w b L)) := Fr.newH f1.s hb
  refine ⟨b, L, rfl, upd_same, fun z hz => Same.sqT f2.s (e3 z (hL1 z hz)), fun L' l k1 k2 hl => ?_⟩
  have f3 := Fr.newH (o := .lst (L'.map fun p => V.ref p.1)) f2.s hl
  refine q l _ _ _ ((f1.trans f2).trans f3) ((f1.trans f2).h.free hl) (f2.s.free hl) upd_same ?_
  have e4 : usort HT.lexLt ks = L'.map (·.2) := by
    rw [k2]
    refine strict_eq stoL (usort_lt stoL _) (usort_lt stoL _) fun x => ?_
    rw [usort_mem stoL, usort_mem stoL, ← e2]
    exact ⟨fun hx => by obtain ⟨z, hz, e⟩ := List.mem_map.mp hx; exact e ▸ hL2 z hz, fun hx => by obtain ⟨z, hz, e⟩ := List.mem_map.mp hx; exact List.mem_map.mpr ⟨z, hL1 z hz, e⟩⟩
  rw [e4]
  exact sets_rp fun z hz => e3 z (hL1 z (k1 z hz))
end
end G9

/-! Layer W: short words. -/
namespace G9
open PySem PySem.Spec PyProof.Rows L2 G9S
/-- the built-in names are what they are -/
structure Blt (mg : Str → Option Value) : Prop where
  all_ : mg "all" = none
  any_ : mg "any" = none
  sorted_ : mg "sorted" = none
  set_ : mg "set" = none
  list_ : mg "list" = none
  tuple_ : mg "tuple" = none
  isinstance_ : mg "isinstance" = none
  int_ : mg "int" = none
  bool_ : mg "bool" = none
  str_ : mg "str" = none
  range_ : mg "range" = none
  len_ : mg "len" = none
  sum_ : mg "sum" = none
  min_ : mg "min" = none
  max_ : mg "max" = none
  enumerate_ : mg "enumerate" = none
  abs_ : mg "abs" = none
/-! ### == of sets, of rows of sets -/
theorem eqvL_ints : ∀ a b : List Int, PyData.eqvAll (D.pyL (a.map D.int)) (D.pyL (b.map D.int)) = decide (a = b)
  | [], [] => by simp [D.pyL, PyData.eqvAll]
  | [], b :: bs => by simp [D.pyL, PyData.eqvAll]
  | a :: as, [] => by simp [D.pyL, PyData.eqvAll]
  | a :: as, b :: bs => by
    have ih := eqvL_ints as bs
    simp only [List.map_cons, D.pyL, PyData.eqvAll, D.py, PyData.eqv, ih, List.cons.injEq, Bool.decide_and]
    rfl
theorem eqv_dS (a b : List Int) : (dS a).eqv (dS b) = decide (a = b) := by
  unfold D.eqv
  simp only [D.py, PyData.eqv, eqvL_ints]
theorem eqv_lS (a b : List Int) : (D.lst (a.map D.int)).eqv (D.lst (b.map D.int)) = decide (a = b) := by
  unfold D.eqv
  simp only [D.py, PyData.eqv, eqvL_ints]
theorem eqvL_sets : ∀ a b : List (List Int), PyData.eqvAll (D.pyL (a.map dS)) (D.pyL (b.map dS)) = decide (a = b)
  | [], [] => by simp [D.pyL, PyData.eqvAll]
  | [], b :: bs => by simp [D.pyL, PyData.eqvAll]
  | a :: as, [] => by simp [D.pyL, PyData.eqvAll]
  | a :: as, b :: bs => by
    have ih := eqvL_sets as bs
    have h1 : (dS a).py.eqv (dS b).py = decide (a = b) := eqv_dS a b
    simp only [List.map_cons, D.pyL, PyData.eqvAll, ih, h1, List.cons.injEq, Bool.decide_and]
theorem eqv_dF (a b : List (List Int)) : (dF a).eqv (dF b) = decide (a = b) := by
  unfold D.eqv
  simp only [D.py, PyData.eqv, eqvL_sets]
theorem eqv_lF (a b : List (List Int)) : (D.lst (a.map dS)).eqv (D.lst (b.map dS)) = decide (a = b) := by
  unfold D.eqv
  simp only [D.py, PyData.eqv, eqvL_sets]
/-- a family -/
abbrev dFam (n : Int) (f : List (List Int)) : D := .tup [.int n, dF f]
theorem eqv_fam (n m : Int) (a b : List (List Int)) : (dFam n a).eqv (dFam m b) = (decide (n = m) && decide (a = b)) := by
  have h1 : (dF a).py.eqv (dF b).py = decide (a = b) := eqv_dF a b
  unfold D.eqv
  rw [show (dFam n a).py = .tuple [.int n, (dF a).py] from rfl, show (dFam m b).py = .tuple [.int m, (dF b).py] from rfl]
  simp only [PyData.eqv, PyData.eqvAll, h1, Bool.and_true]
  rfl
theorem sh_dS {n : Nat} (a : List Int) : Sh (n + 1) (dS a) := .tup fun d hd => by
  obtain ⟨i, _, rfl⟩ := List.mem_map.mp hd
  exact .int i
theorem sh_lS {n : Nat} (a : List Int) : Sh (n + 1) (.lst (a.map D.int)) := .lst fun d hd => by
  obtain ⟨i, _, rfl⟩ := List.mem_map.mp hd
  exact .int i
theorem sh_dF {n : Nat} (a : List (List Int)) : Sh (n + 2) (dF a) := .tup fun d hd => by
  obtain ⟨i, _, rfl⟩ := List.mem_map.mp hd
  exact sh_dS i
theorem sh_lF {n : Nat} (a : List (List Int)) : Sh (n + 2) (.lst (a.map dS)) := .lst fun d hd => by
  obtain ⟨i, _, rfl⟩ := List.mem_map.mp hd
  exact sh_dS i
theorem sh_fam {n : Nat} (k : Int) (a : List (List Int)) : Sh (n + 3) (dFam k a) := .tup fun d hd => by
  rcases List.mem_cons.mp hd with rfl | hd
  · exact .int k
  · obtain rfl := List.mem_singleton.mp hd
    exact sh_dF a
theorem room65 {k : Nat} {A : Around} (r : Room k A) : A.units + 65 < cLine := by
  have := r.un
  omega
theorem any_sets (x : List Int) : ∀ ks : List (List Int), ((D.pyL (ks.map dS)).any fun z => PyData.eqv z (dS x).py) = ks.contains x
  | [] => rfl
  | k :: ks => by
    have h1 : (dS k).py.eqv (dS x).py = decide (k = x) := eqv_dS k x
    rw [List.map_cons, D.pyL, List.any_cons, any_sets x ks, List.contains_cons, h1]
    congr 1
    by_cases e : k = x
    · subst e
      simp
    · rw [decide_eq_false e]
      exact (beq_eq_false_iff_ne.mpr fun z => e z.symm).symm
theorem rd_ninD {K : PySem.W.Frag} {H0 : Hp} {x : List Int} {ks : List (List Int)} : Rd2 K H0 (rNotInD K) (dS x) (.lst (ks.map dS)) (.bl (!ks.contains x)) := fun v u G H _ s rx ry Q q => by
  refine ⟨(dS x).py, D.pyL (ks.map dS), (sh_dS (n := 0) x).dp (rx.up s), (sh_lF (n := 0) ks).dp (ry.up s), (sh_dS (n := 0) x).shaped, (sh_lF (n := 0) ks).shaped, ?_⟩
  rw [any_sets]
  exact q _ _ _ (Fr.refl s) (.bl _)
theorem rd_inD {K : PySem.W.Frag} {H0 : Hp} {x : List Int} {ks : List (List Int)} : Rd2 K H0 (rInD K) (dS x) (.lst (ks.map dS)) (.bl (ks.contains x)) := fun v u G H _ s rx ry Q q => by
  refine ⟨(dS x).py, D.pyL (ks.map dS), (sh_dS (n := 0) x).dp (rx.up s), (sh_lF (n := 0) ks).dp (ry.up s), (sh_dS (n := 0) x).shaped, (sh_lF (n := 0) ks).shaped, ?_⟩
  rw [any_sets]
  exact q _ _ _ (Fr.refl s) (.bl _)
section
variable {X : Cx} {H0 : Hp} {ρ : Ro} {e a b c : Expr} {es : List Expr} {d : D} {ds : List D} {t : String} {k : Bool} {n : Str} {p p2 pos : Pos} {α : Type}
/-- isinstance(e, T) -/
theorem e_isi (T : String) (B : Blt X.mg) (h : Ev X H0 ρ e d) (ht : d.tyS = some t) (hb : kitB t T = some k) (hm : X.mg n = none) (hv : bootBuiltins n = some (.type T) := by decide +kernel) (hg : Gl X "isinstance" := by rfl) (hg2 : Gl X n := by rfl) (hn : n ≠ "__name__" := by decide) (hdb : (n == ("__debug__" : Str)) = false := by decide)
    (he : starEach [e, .Name n p2] X.env = (false, eval e X.env) :: starEach [.Name n p2] X.env := by rfl) (he2 : starEach [.Name n p2] X.env = (false, eval (.Name n p2) X.env) :: starEach [] X.env := by rfl) (hpl : (backTo pos (starEach [.Name n p2] X.env)).any (·.1) = false := by rfl) :
    Ev X H0 ρ (.Call (.Name "isinstance" p) [e, .Name n p2] [] pos) (.bl k) :=
  e_callB call_isi B.isinstance_ (a_cons h (a_cons (e_ty hm hv hg2 hn hdb) a_nil he2) he) (rc_isi ht hb) (by decide +kernel) hg (by decide) (by decide) he hpl
/-- all(l), any(l), sum(l) of a new list; of a comprehension -/
theorem e_all {xs : List α} {g : α → Bool} (B : Blt X.mg) (h : EvL X H0 ρ e (xs.map fun x => D.bl (g x))) (hc : X.calm = true := by rfl) (hg : Gl X "all" := by rfl) (he : starEach [e] X.env = (false, eval e X.env) :: starEach [] X.env := by rfl) (hpl : (backTo pos (starEach [] X.env)).any (·.1) = false := by rfl) :
    Ev X H0 ρ (.Call (.Name "all" p) [e] [] pos) (.bl (xs.all g)) :=
  (e_callB (cr_all hc) B.all_ (a_cons (h.is (d' := (xs.map g).map D.bl) (by rw [List.map_map]; rfl)).ev a_nil he) rc_all (by decide +kernel) hg (by decide) (by decide) he hpl).is (by rw [List.all_map]; rfl)
theorem e_any {xs : List α} {g : α → Bool} (B : Blt X.mg) (h : EvL X H0 ρ e (xs.map fun x => D.bl (g x))) (hc : X.calm = true := by rfl) (hg : Gl X "any" := by rfl) (he : starEach [e] X.env = (false, eval e X.env) :: starEach [] X.env := by rfl) (hpl : (backTo pos (starEach [] X.env)).any (·.1) = false := by rfl) :
    Ev X H0 ρ (.Call (.Name "any" p) [e] [] pos) (.bl (xs.any g)) :=
  (e_callB (cr_any hc) B.any_ (a_cons (h.is (d' := (xs.map g).map D.bl) (by rw [List.map_map]; rfl)).ev a_nil he) rc_any (by decide +kernel) hg (by decide) (by decide) he hpl).is (by rw [List.any_map]; rfl)
theorem e_sum {xs : List α} {g : α → Int} (B : Blt X.mg) (h : EvL X H0 ρ e (xs.map fun x => D.int (g x))) (hc : X.calm = true := by rfl) (hg : Gl X "sum" := by rfl) (he : starEach [e] X.env = (false, eval e X.env) :: starEach [] X.env := by rfl) (hpl : (backTo pos (starEach [] X.env)).any (·.1) = false := by rfl) :
    Ev X H0 ρ (.Call (.Name "sum" p) [e] [] pos) (.int (xs.map g).sum) :=
  e_callB (cr_sum hc) B.sum_ (a_cons (h.is (d' := (xs.map g).map D.int) (by rw [List.map_map]; rfl)).ev a_nil he) rc_sum (by decide +kernel) hg (by decide) (by decide) he hpl
/-- tuple(l), list(t), list(l), len -/
theorem e_tuple (B : Blt X.mg) (h : Ev X H0 ρ e (.lst ds)) (hg : Gl X "tuple" := by rfl) (he : starEach [e] X.env = (false, eval e X.env) :: starEach [] X.env := by rfl) (hpl : (backTo pos (starEach [] X.env)).any (·.1) = false := by rfl) :
    Ev X H0 ρ (.Call (.Name "tuple" p) [e] [] pos) (.tup ds) := e_callT call_tuple_of B.tuple_ (a_cons h a_nil he) rc_tupL (by decide +kernel) hg (by decide) (by decide) he hpl
theorem l_listT (B : Blt X.mg) (h : Ev X H0 ρ e (.tup ds)) (hg : Gl X "list" := by rfl) (he : starEach [e] X.env = (false, eval e X.env) :: starEach [] X.env := by rfl) (hpl : (backTo pos (starEach [] X.env)).any (·.1) = false := by rfl) :
    EvL X H0 ρ (.Call (.Name "list" p) [e] [] pos) ds := l_callT call_list_of B.list_ (a_cons h a_nil he) rc_listT (by decide +kernel) hg (by decide) (by decide) he hpl
theorem e_lenT (B : Blt X.mg) (h : Ev X H0 ρ e (.tup ds)) (hg : Gl X "len" := by rfl) (he : starEach [e] X.env = (false, eval e X.env) :: starEach [] X.env := by rfl) (hpl : (backTo pos (starEach [] X.env)).any (·.1) = false := by rfl) :
    Ev X H0 ρ (.Call (.Name "len" p) [e] [] pos) (.int ds.length) := e_callB call_len_seq B.len_ (a_cons h a_nil he) rc_lenT (by decide +kernel) hg (by decide) (by decide) he hpl
theorem e_lenL (B : Blt X.mg) (h : Ev X H0 ρ e (.lst ds)) (hg : Gl X "len" := by rfl) (he : starEach [e] X.env = (false, eval e X.env) :: starEach [] X.env := by rfl) (hpl : (backTo pos (starEach [] X.env)).any (·.1) = false := by rfl) :
    Ev X H0 ρ (.Call (.Name "len" p) [e] [] pos) (.int ds.length) := e_callB call_len_seq B.len_ (a_cons h a_nil he) rc_lenL (by decide +kernel) hg (by decide) (by decide) he hpl
/-- items by a written place -/
theorem e_at {i : Int} {j pi} (h : Ev X H0 ρ e (.tup ds)) (hi : atI ds i = some d) : Ev X H0 ρ (.Subscript e (.Constant (.int i) j pi) pos) d := e_ix ix_tup h e_int (rd_ixT hi)
theorem e_atL {i : Int} {j pi} (h : Ev X H0 ρ e (.lst ds)) (hi : atI ds i = some d) : Ev X H0 ρ (.Subscript e (.Constant (.int i) j pi) pos) d := e_ix ix_list h e_int (rd_ixL hi)
/-- comparisons -/
theorem e_eqD {da db : D} {n m : Nat} (hu : X.A.units + 64 < cLine) (ha : Ev X H0 ρ a da) (hb : Ev X H0 ρ b db) (sa : Sh n da) (sb : Sh m db) (hn : n ≤ 64 := by decide) (hm : m ≤ 64 := by decide) : Ev X H0 ρ (.Compare a [.Eq] [b] pos) (.bl (da.eqv db)) := e_cmp (op_eqD hu) ha hb (rd_eqD sa sb hn hm)
theorem e_neD {da db : D} {n m : Nat} (hu : X.A.units + 64 < cLine) (ha : Ev X H0 ρ a da) (hb : Ev X H0 ρ b db) (sa : Sh n da) (sb : Sh m db) (hn : n ≤ 64 := by decide) (hm : m ≤ 64 := by decide) : Ev X H0 ρ (.Compare a [.NotEq] [b] pos) (.bl (!da.eqv db)) := e_cmp (op_neD hu) ha hb (rd_neD sa sb hn hm)
theorem t_eqD {da db : D} {n m : Nat} (hu : X.A.units + 64 < cLine) (ha : Ev X H0 ρ a da) (hb : Ev X H0 ρ b db) (sa : Sh n da) (sb : Sh m db) (hn : n ≤ 64 := by decide) (hm : m ≤ 64 := by decide) : EvT X H0 ρ (.Compare a [.Eq] [b] pos) (da.eqv db) := t_cmp (op_eqD hu) ha hb (rd_eqD sa sb hn hm)
theorem t_neD {da db : D} {n m : Nat} (hu : X.A.units + 64 < cLine) (ha : Ev X H0 ρ a da) (hb : Ev X H0 ρ b db) (sa : Sh n da) (sb : Sh m db) (hn : n ≤ 64 := by decide) (hm : m ≤ 64 := by decide) : EvT X H0 ρ (.Compare a [.NotEq] [b] pos) (!da.eqv db) := t_cmp (op_neD hu) ha hb (rd_neD sa sb hn hm)
/-- comprehensions without a test; that hand on what they walk -/
theorem c_map {elt iter : Expr} {scope : Scope} (enc : α → D) (xs : List α) (g : α → D) (j : Nat) (hsrc : EvI X H0 ρ iter (xs.map enc)) (hz : xs.length ≤ 100000)
    (he : ∀ x ∈ xs, ∀ (s : Shared) (H : Hp) (C : Addr) (cl : List (Str × Addr)) (fp : List Addr), Ev (X.blk s H scope (compEnvC scope cl C X.env) fp) H0 ((wipeD ρ [j]).set j (some (enc x))) elt (g x)) :
    EvC X H0 ρ elt iter [] scope j (xs.map g) := by
  have h := c_of (elt := elt) (ifs := []) (scope := scope) enc xs (fun _ => true) g j hsrc hz (fun _ _ _ _ _ _ _ => ts_nil) fun x hx _ => he x hx
  rw [List.filter_eq_self.mpr fun _ _ => rfl] at h
  exact h
theorem c_fil {t : Str} {pn : Pos} {iter cnd : Expr} {scope : Scope} (enc : α → D) (xs : List α) (f : α → Bool) (j : Nat) (hsrc : EvI X H0 ρ iter (xs.map enc)) (hz : xs.length ≤ 100000)
    (ht : ∀ x ∈ xs, ∀ (s : Shared) (H : Hp) (C : Addr) (cl : List (Str × Addr)) (fp : List Addr), EvT (X.blk s H scope (compEnvC scope cl C X.env) fp) H0 ((wipeD ρ [j]).set j (some (enc x))) cnd (f x))
    (hv : ∀ (s : Shared) (H : Hp) (C : Addr) (cl : List (Str × Addr)) (fp : List Addr), PE (X.blk s H scope (compEnvC scope cl C X.env) fp) (.Name t pn) (tVar j) := by exact fun _ _ _ _ _ => pv _) (hj : Nat.blt j ρ.length = true := by rfl) :
    EvC X H0 ρ (.Name t pn) iter [cnd] scope j ((xs.filter f).map enc) :=
  c_of enc xs f enc j hsrc hz (fun x hx s H C cl fp => ts_one (ht x hx s H C cl fp)) fun x hx _ s H C cl fp σ G H sg sh en Q q => by
    obtain ⟨v, h1, h2⟩ := en.at_ j (enc x) (by rw [List.getElem?_set_self (by show j < (ρ.set j none).length; rw [List.length_set]; exact Nat.le_of_ble_eq_true hj)])
    exact wE_of (hv s _ C cl fp) ⟨v, h1, q _ _ _ (Fr.refl sh) h2⟩
end
end G9

/-! Layer X: objects, slices of lists, an own ==, a lambda handed on. -/
namespace G9
open PySem PySem.Spec PyProof.Rows L2 G9S
/-! ### what of a heap the data lean on -/
def sqO : HO → Bool
  | .lst _ => true
  | .tup _ => true
  | .frz _ _ => true
  | _ => false
def Kp (G G' : Hp) : Prop := ∀ b o, G b = some o → sqO o = true → G' b = some o
theorem Kp.refl {G : Hp} : Kp G G := fun _ _ e _ => e
theorem Kp.trans {G G1 G2 : Hp} (a : Kp G G1) (b : Kp G1 G2) : Kp G G2 := fun x o e h => b x o (a x o e h) h
theorem Kp.of {G G' : Hp} (s : Same G G') : Kp G G' := fun b o e _ => s b o e
theorem Kp.sqT {K : PySem.W.Frag} {H H' : Hp} {a : Addr} {xs : List V} (e : Kp H H') (h : SqT K H a xs) : SqT K H' a xs := by
  rcases h with (h | ⟨o, h⟩) | h
  · exact .inl (.inl (e _ _ h rfl))
  · exact .inl (.inr ⟨o, e _ _ h rfl⟩)
  · exact .inr h
mutual
theorem Rp.kp' {K : PySem.W.Frag} {H H' : Hp} (e : Kp H H') : ∀ (d : D) (v : V), Rp K H v d → Rp K H' v d
  | .non, _, .non => .non
  | .bl b, _, .bl _ => .bl b
  | .int b, _, .int _ => .int b
  | .str b, _, .str _ => .str b
  | .ty b, _, .ty _ => .ty b
  | .ref b, _, .ref _ => .ref b
  | .tup ds, _, .tup h r => .tup (Kp.sqT e h) (RpL.kp' e ds _ r)
  | .lst ds, _, .lst h r => .lst (e _ _ h rfl) (RpL.kp' e ds _ r)
theorem RpL.kp' {K : PySem.W.Frag} {H H' : Hp} (e : Kp H H') : ∀ (ds : List D) (vs : List V), RpL K H vs ds → RpL K H' vs ds
  | [], _, .nil => .nil
  | d :: ds, _, .cons h r => .cons (Rp.kp' e d _ h) (RpL.kp' e ds _ r)
end
theorem Rp.kp {K : PySem.W.Frag} {H H' : Hp} {v : V} {d : D} (h : Rp K H v d) (e : Kp H H') : Rp K H' v d := Rp.kp' e d v h
theorem RpL.kp {K : PySem.W.Frag} {H H' : Hp} {v : List V} {d : List D} (h : RpL K H v d) (e : Kp H H') : RpL K H' v d := RpL.kp' e d v h
theorem En.kp {K : PySem.W.Frag} {H H' : Hp} {σ : L2.St} {ρ : Ro} (h : En K H σ ρ) (e : Kp H H') : En K H' σ ρ := ⟨h.len, fun i d q => by
  obtain ⟨v, a, b⟩ := h.at_ i d q
  exact ⟨v, a, b.kp e⟩⟩
/-- all but p -/
def hide (G : Hp) (p : Addr) : Hp := fun b => if b = p then none else G b
theorem hide_same {G : Hp} {p : Addr} : hide G p p = none := if_pos rfl
theorem hide_ne {G : Hp} {p b : Addr} (h : b ≠ p) : hide G p b = G b := if_neg h
theorem hide_sub {G : Hp} {p b : Addr} {o : HO} (h : hide G p b = some o) : b ≠ p ∧ G b = some o := by
  by_cases e : b = p
  · subst e
    rw [hide_same] at h
    cases h
  · rw [hide_ne e] at h
    exact ⟨e, h⟩
theorem same_hide {G H : Hp} {p : Addr} (s : Same G H) : Same (hide G p) H := fun b o e => s b o (hide_sub e).2
theorem Kp.hide {G : Hp} {p : Addr} {o : HO} (h : G p = some o) (hq : sqO o = false) : Kp G (hide G p) := fun b u e q => by
  have hb : b ≠ p := fun z => by
    subst z
    rw [h] at e
    cases e
    rw [hq] at q
    cases q
  rw [hide_ne hb]
  exact e
theorem Kp.put {G : Hp} {p : Addr} {o u : HO} (h : G p = some o) (hq : sqO o = false) : Kp G (upd G p u) := fun b w e q => by
  have hb : b ≠ p := fun z => by
    subst z
    rw [h] at e
    cases e
    rw [hq] at q
    cases q
  rw [upd_ne hb]
  exact e
/-- a thing of H is leant on for a while -/
theorem same_show {G H : Hp} {p : Addr} {o : HO} (s : Same G H) (hp : H p = some o) : Same (upd G p o) H := fun b u e => by
  by_cases hb : b = p
  · subst hb
    rw [upd_same] at e
    rw [hp]
    exact e
  · rw [upd_ne hb] at e
    exact s b u e
theorem Fr.hide {G H G' H' : Hp} {p : Addr} {o : HO} (f : Fr (upd G p o) H G' H') (gp : G p = none) : Fr G H (hide G' p) H' :=
  ⟨f.h, fun b u e => by
    have hb : b ≠ p := ne_of_none e gp
    rw [hide_ne hb]
    exact f.g b u (by rw [upd_ne hb]; exact e), same_hide f.s, fun b e1 e2 => by
    by_cases hb : b = p
    · rw [hb]
      exact hide_same
    · rw [hide_ne hb]
      exact f.n b (by rw [upd_ne hb]; exact e1) e2⟩
theorem Fr.show {G H G' H' : Hp} {p : Addr} {o : HO} (f : Fr (G9.hide G p) H G' H') (gp : G p = some o) (hp : H p = some o) : Fr G H (upd G' p o) H' := by
  have g1 : G' p = none := f.n p hide_same (by rw [hp]; exact fun z => nomatch z)
  refine ⟨f.h, fun b u e => ?_, same_show f.s (f.h _ _ hp), fun b e1 e2 => ?_⟩
  · by_cases hb : b = p
    · subst hb
      rw [gp] at e
      cases e
      exact upd_same
    · rw [upd_ne hb]
      exact f.g b u (by rw [hide_ne hb]; exact e)
  · have hb : b ≠ p := fun z => by
      rw [z, gp] at e1
      cases e1
    rw [upd_ne hb]
    exact f.n b (by rw [hide_ne hb]; exact e1) e2
/-- all but p stays -/
structure Fo (p : Addr) (G H G' H' : Hp) : Prop where
  h : ∀ b o, b ≠ p → H b = some o → H' b = some o
  g : Same G G'
  s : Same G' H'
  n : ∀ b, G b = none → H b ≠ none → G' b = none
  d : H' p ≠ none
theorem Fr.o {p : Addr} {G H G' H' : Hp} (f : Fr G H G' H') (hp : H p ≠ none) : Fo p G H G' H' := ⟨fun b o _ e => f.h b o e, f.g, f.s, f.n, fun z => by
  cases e : H p with
  | none => exact hp e
  | some o =>
    rw [f.h p o e] at z
    cases z⟩
theorem Fo.trans {p : Addr} {G H G1 H1 G2 H2 : Hp} (a : Fo p G H G1 H1) (b : Fo p G1 H1 G2 H2) : Fo p G H G2 H2 :=
  ⟨fun x o hx e => b.h x o hx (a.h x o hx e), a.g.trans b.g, b.s, fun x e1 e2 => b.n x (a.n x e1 e2) fun z => by
    by_cases hb : x = p
    · subst hb
      exact a.d z
    · cases e : H x with
      | none => exact e2 e
      | some o => exact absurd (a.h x o hb e) (by rw [z]; exact fun y => nomatch y), b.d⟩
theorem Fo.mut {p : Addr} {G H G' H' : Hp} {o : HO} (a : Fo p G H G' H') (gp : G' p = none) : Fo p G H G' (upd H' p o) :=
  ⟨fun b u hb e => by rw [upd_ne hb]; exact a.h b u hb e, a.g, Same.mut a.s gp, a.n, by rw [upd_same]; exact fun z => nomatch z⟩
theorem Fo.keep {p b : Addr} {o : HO} {G H G' H' : Hp} (f : Fo p G H G' H') (hb : b ≠ p) (gb : G b = none) (e : H b = some o) : G' b = none ∧ H' b = some o := ⟨f.n b gb (by rw [e]; exact fun z => nomatch z), f.h b o hb e⟩
theorem Lo.fo {K : PySem.W.Frag} {p l : Addr} {ds : List D} {G H G' H' : Hp} (h : Lo K G H l ds) (f : Fo p G H G' H') (hl : l ≠ p) : Lo K G' H' l ds := by
  obtain ⟨vs, h1, h2⟩ := h.ex
  obtain ⟨a, b⟩ := f.keep hl h.out h1
  exact ⟨a, vs, b, h2.up f.g⟩

/-! ### fields -/
section
variable {X : Cx} {H0 : Hp} {ρ : Ro} {o e : Expr} {d : D} {ds : List D} {pos p1 p2 p3 : Pos} {f : Str} {σ : L2.St} {G H : Hp} {rest : List Stmt} {N : Ends}
theorem e_fld {p C dx : Addr} {fs : List (Str × V)} {v : V} (h : Ev X H0 ρ o (.ref p)) (hp : H0 p = some (.ins C dx fs)) (c : Cls X.K C) (n : NoAttr X.K C f) (hl : fs.lookup f = some v) (r : Rp X.K H0 v d)
    (hb : attributeBase o f X.env (eval o X.env) = eval o X.env := by rfl) : Ev X H0 ρ (.Attribute o f pos) d := fun σ G H sg sh en Q q =>
  wE_of (pe_fld pw hb) (h σ G H sg sh en _ fun x G1 H1 f1 r1 => ⟨p, C, dx, fs, v, r1.ref_of, f1.s _ _ (f1.g _ _ (sg _ _ hp)), c, n, hl, q _ _ _ f1 (r.up (sg.trans f1.g))⟩)
/-- o.f = e, o an object that is leant on -/
theorem s_fld {p C dx : Addr} {fs : List (Str × V)} (h : Ev X H0 ρ e d) (ho : Ev X H0 ρ o (.ref p)) (sg : Same H0 G) (sh : Same G H) (en : En X.K G σ ρ) (hp : G p = some (.ins C dx fs)) (c : Cls X.K C) (n : NoAttr X.K C f) (hl : fs.length < 1000)
    (k : ∀ v G' H', Fr G H G' H' → Rp X.K G' v d → wB X rest N σ (upd H' p (.ins C dx (putF f v fs)))) (hs : swapsWith e (some (.Attribute o f p1)) pos.line X.env = pure false := by rfl) :
    wB X (.Assign [.Attribute o f p1] e pos :: rest) N σ H :=
  wB_cons (wS_of (ps_fld pw pw hs) (h σ G H sg sh en _ fun v G1 H1 f1 r1 => ho σ G1 H1 (sg.trans f1.g) f1.s (en.up f1.g) _ fun x G2 H2 f2 r2 =>
    ⟨p, C, dx, fs, r2.ref_of, f2.s _ _ (f2.g _ _ (f1.g _ _ hp)), c, n, hl, k v G2 H2 (f1.trans f2) (r1.up f2.g)⟩))
/-- l[:-1] -/
theorem cutV_init (xs : List V) : cutV xs none (some (-1)) = xs.dropLast := by
  have h1 : HT.sIx xs.length 0 none = 0 := rfl
  have h2 : HT.sIx xs.length xs.length (some (-1)) = xs.length - 1 := by
    show (if (-1 : Int) < 0 then ((-1 : Int) + (xs.length : Int)).toNat else min (-1 : Int).toNat xs.length) = _
    rw [if_pos (by decide)]
    omega
  unfold cutV
  rw [h1, h2, List.drop_zero, List.dropLast_eq_take]
  rfl
theorem RpL.dropLast {K : PySem.W.Frag} {H : Hp} : ∀ {vs : List V} {ds : List D}, RpL K H vs ds → RpL K H vs.dropLast ds.dropLast
  | _, _, .nil => .nil
  | _, _, .cons r .nil => .nil
  | _, _, .cons r (.cons r2 t) => .cons r (RpL.dropLast (.cons r2 t))
theorem l_init {j : Nat} (h : Ev X H0 ρ e (.lst ds)) : EvL X H0 ρ (.Subscript e (.Slice none (some (.UnaryOp .USub (.Constant (.int 1) j p1) p2)) none p3) pos) ds.dropLast := fun σ G H sg sh en Q q =>
  wE_of (pe_slice sl_list pw po_none (po_some (pe_un un_neg pe_int))) (h σ G H sg sh en _ fun x G1 H1 f1 r1 => by
    obtain ⟨a, xs, rfl, hs, r⟩ := r1.lst_of
    refine ⟨1, rfl, -1, rfl, a, xs, rfl, SqL.of (f1.s _ _ hs), fun p hp => ?_⟩
    rw [cutV_init]
    have f2 := Fr.newH (o := .lst xs.dropLast) f1.s hp
    exact q p _ G1 _ (f1.trans f2) (f1.h.free hp) (f1.s.free hp) upd_same r.dropLast)
theorem atI_last {α : Type} {ds : List α} {d : α} (hl : ds.getLast? = some d) : atI ds (-1) = some d := by
  have h0 : 0 < ds.length := List.length_pos_iff.mpr fun z => by rw [z] at hl; cases hl
  rw [List.getLast?_eq_getElem?] at hl
  unfold atI ixN
  rw [if_neg (by decide), if_pos (by omega)]
  show ds[((-1 : Int) + (ds.length : Int)).toNat]? = some d
  rw [show ((-1 : Int) + (ds.length : Int)).toNat = ds.length - 1 from by omega]
  exact hl
/-- e[-1] -/
theorem e_last {j : Nat} (h : Ev X H0 ρ e (.lst ds)) (hl : ds.getLast? = some d) : Ev X H0 ρ (.Subscript e (.UnaryOp .USub (.Constant (.int 1) j p1) p2) pos) d :=
  e_ix ix_list h (e_un un_neg e_int rd_neg) (rd_ixL (atI_last hl))
end

/-! ### == by the text's own __eq__ -/
def rOwn (C : Addr) (sp : Sp) : R2 := fun x y H Q => ∃ a b dx dy fs gs, x = .ref a ∧ y = .ref b ∧ H a = some (.ins C dx fs) ∧ H b = some (.ins C dy gs) ∧ sp [.ref a, .ref b] H (fun v H' => (∃ k, v = .bl k) ∧ Q v H') E0
section
variable {X : Cx}
theorem op_own {C f : Addr} {fd : FuncData} {ps : List Str} {sp : Sp} {k : Nat} (F : FnOk X.prog X.w X.K X.mg X.base CX0 k f fd ps sp) (hs : PySem.W.findIn X.K (.ref C) "__eq__" = some (some (.ref f))) (hf : PySem.W.isFn X.K (.ref f) = true) (hb : Binds X.K fd ps []) (hr : Room k X.A) : OpR X (compareOp .Eq) (rOwn C sp) := by
  intro pins s σ H x y v u Q I rx ry hq
  obtain ⟨a, b, dx, dy, fs, gs, rfl, rfl, ha, hb', hsp⟩ := hq
  cases rx
  cases ry
  show wpAny (model X.prog X.w) X.A (richCompare .Eq (.ref a) (.ref b)) (EP X pins σ Q) X.xe s
  obtain ⟨mA, J, _⟩ := ins_get I.hok ha
  obtain ⟨mB, J', _⟩ := ins_get I.hok hb'
  obtain ⟨od, J, _⟩ := J.look
  obtain ⟨od', J', _⟩ := J'.look
  obtain ⟨m, hF⟩ := I.fr
  refine PySem.W.cmp_K (op := .Eq) (tb := .ref C) hr.units0 hF I.ok.mod.kin J J'.type (by simp [PySem.W.notFirst]) hs hf ?_
  have hl := F.len _ _ _ _ hsp
  have r2 : Vals [V.ref a, V.ref b] [Value.ref a, Value.ref b] := .cons rfl (.cons rfl .nil)
  refine wpAny_call (codeAny_mono (F.run X.A X.stack s H ⟨[.ref a, .ref b], []⟩ [.ref a, .ref b] [.ref a, .ref b] _ E0 hr I.env0 (by
    have := hb s [.ref a, .ref b] I.kIn (by simpa using hl)
    simpa using this) r2 hsp) fun r s' hq => ?_)
  cases r with
  | error e => exact (show False from hq).elim
  | ok fl =>
    cases fl with
    | ret w =>
      obtain ⟨z, H', I', rz, ⟨kk, ez⟩, q⟩ := I.after hq
      subst ez
      cases rz
      exact ⟨.bl kk, H', I', rfl, q⟩
    | next => exact False.elim hq
    | brk => exact False.elim hq
    | cont => exact False.elim hq
end
/-! ### methods -/
structure FnM (P : Program) (w : World) (K : PySem.W.Frag) (mg : Str → Option Value) (base : Heap) (C : Addr) (m : Str) (k : Nat) (sp : Sp) : Prop where
  ex : ∃ (f : Addr) (fd : FuncData) (ps : List Str) (CX : CXT), FnOk P w K mg base CX k f fd ps sp ∧ Meth K C m f ∧ Binds K fd ps [] ∧ ∀ X : Cx, X.prog = P → X.w = w → Passes CX X E0
section
variable {X : Cx} {C : Addr} {m : Str} {k : Nat} {sp : Sp} {o e : Expr} {es : List Expr} {σ : L2.St} {H : Hp} {Q : VK} {apos pos : Pos} {pl : Sem Bool}
theorem w_meth0 (F : FnM X.prog X.w X.K X.mg X.base C m k sp) (c : Cls X.K C) (hr : Room k X.A) (h : wE X o σ H fun x H1 => ∃ a dx fs, x = .ref a ∧ H1 a = some (.ins C dx fs) ∧ fs.lookup m = none ∧ sp [x] H1 Q E0)
    (ht : eval (.Call (.Attribute o m apos) [] [] pos) X.env = (do
      let ov ← eval o X.env
      standAt apos.atName
      let (f, first) ← holding [ov] (getMethod ov m pl)
      callWith pos f first (backTo pos (starEach [] X.env)) (backToKw pos (keywordEach [] X.env))) := by rfl) : wE X (.Call (.Attribute o m apos) [] [] pos) σ H Q := by
  obtain ⟨f, fd, ps, CX, F1, hm, hb, hx⟩ := F.ex
  exact wE_of (pe_meth0 (pl := pl) pw c hm F1 hr hb .nil (hx X rfl rfl) ht) h
theorem w_meth1 (F : FnM X.prog X.w X.K X.mg X.base C m k sp) (c : Cls X.K C) (hr : Room k X.A) (h : wE X o σ H fun x H1 => ∃ a dx fs, x = .ref a ∧ H1 a = some (.ins C dx fs) ∧ fs.lookup m = none ∧ wE X e σ H1 fun y H2 => sp [x, y] H2 Q E0)
    (hst : starEach [e] X.env = (false, eval e X.env) :: starEach [] X.env := by rfl) (hpl : (backTo pos (starEach [] X.env)).any (·.1) = false := by rfl)
    (ht : eval (.Call (.Attribute o m apos) [e] [] pos) X.env = (do
      let ov ← eval o X.env
      standAt apos.atName
      let (f, first) ← holding [ov] (getMethod ov m pl)
      callWith pos f first (backTo pos (starEach [e] X.env)) (backToKw pos (keywordEach [] X.env))) := by rfl) : wE X (.Call (.Attribute o m apos) [e] [] pos) σ H Q := by
  obtain ⟨f, fd, ps, CX, F1, hm, hb, hx⟩ := F.ex
  exact wE_of (pe_meth (pl := pl) pw c hm F1 hr hb .nil (hx X rfl rfl) (pa_cons pw pa_nil hst) hst hpl ht) h
end
/-! ### told(lambda: ..), where nothing is raised -/
section
variable {X : Cx}
theorem told_calm {Ng : List Str} {x a e q n : Str} {sg : Scope} {g CS : Addr} {cdg : Value} {i : Nat} {sst : List Stmt} {s0 : Stmt} {p1 p2 p3 p4 p7 p8 : Pos} (hge : sg.names.lookup e = some .globalImplicit) (hme : X.mg e = some (.ref CS)) (hde : (e == ("__debug__" : Str)) = false) (h0 : ∀ f : Addr, (L2.start Ng [V.ref f])[0]? = some (some (V.ref f)))
    (hN : Ng.Nodup) (hi : Ng[i]? = some n) (hln : sg.names.lookup n = some .local) :
    LamX.GivesTo X Ng x sg g cdg [.Try [.Return (some (.Call (.Name a p1) [] [] p2)) p3] [.ExceptHandler (some (.Name e p4)) (some n) (s0 :: sst) p7] [] [] p8] a q (fun tl H Q => tl (fun _ _ _ => False) H Q) := by
  intro f c' s H Q tl act hc h
  have hgl : Gl (cxOf C8.CX0 X.prog X.w X.K X.mg X.base Ng x sg g cdg X.A X.stack s H C8.E0).nox e := hge
  refine ⟨_, pss_one (ps_try_as (X := (cxOf C8.CX0 X.prog X.w X.K X.mg X.base Ng x sg g cdg X.A X.stack s H C8.E0).nox) (c := .ref CS) (i := i)
      (tb := fun W D σ H => σ[0]? = some (some (.ref f)) ∧ H c' = some (LamX.CodeO c' q) ∧ tl (fun _ _ _ => False) H D.rt) (ts := fun _ _ _ _ _ _ => False)
      rfl rfl hN hi hln ⟨hgl, hde, .inl hme⟩ LamX.takes0 (fun W pn xe tk _ => ?_) (fun a oe cls d pn _ _ => ⟨fun _ _ _ _ _ _ h => h.elim⟩)), ?_⟩
  · refine ⟨fun pins s' σ H' D I h' => ?_⟩
    obtain ⟨h1, h2, h3⟩ := h'
    have hp := act W pn xe (fun _ _ _ => False) p1 p2 tk (fun _ _ _ _ z => z.elim)
    have hq := pss_one (ps_ret (pos := p3) hp)
    exact hq.run pins s' σ H' D I ⟨h1, h2, h3⟩
  · exact ⟨h0 f, hc, h⟩
end
end G9

/-! Layer H: where an exception is handled. -/
namespace G9
open PySem PySem.Spec PyProof.Rows L2 G9S L2H HotX
section
variable {prog : Program} {w : World} {A : Around} {E : Value → Shared → Prop} {s : Shared}
/-- the end of a list's iterator there -/
theorem next_list_end_hot {it l x1 : Addr} {i : Nat} {items : Array Value} {Q : Option Value → Shared → Prop} (hot : HotAt A x1 s.heap) (hne : x1 ≠ it)
    (hit : s.heap.IsListIter it l i) (hl : s.heap.IsList l items) (hx : items[i]? = none)
    (hQ : ∀ h', Heap.ExtBut it s.heap h' → Q none { s with heap := h' }) : wpAny (model prog w) A (pyNext (.ref it)) Q E s := by
  obtain ⟨o, ho, hc, hd⟩ := id hit
  obtain ⟨ol, hol, _, nl, hdl⟩ := hl
  obtain ⟨hh, o1, vs1, h1, d1, c1⟩ := hot
  unfold pyNext
  refine wpAny_bind (wpAny_attempt (wpAny_callSpecial?_slot (name := Str.ofString "__next__") hit.typeIs slot_listiter_next
    (wpAny_call_entry slot_listiter_next hit.typeIs entry_listiter_next ?_ (args_listiter_next _))))
  show wpAny _ _ (field (.ref it) 0 >>= _) _ _ s
  refine wpAny_bind (wpAny_field ho hd (x := .ref l) rfl ?_)
  show wpAny _ _ (if (Value.ref l == Value.none) = true then _ else _) _ _ s
  rw [if_neg (show ¬ ((Value.ref l == Value.none) = true) from Bool.false_ne_true)]
  show wpAny _ _ (field (.ref it) 1 >>= _) _ _ s
  refine wpAny_bind (wpAny_field ho hd (x := .int i 0) rfl ?_)
  show wpAny _ _ (seqItems? (.ref l) >>= _) _ _ s
  refine wpAny_bind (wpAny_seqItems hol hdl ?_)
  simp only [Int.toNat_natCast, hx]
  refine wpAny_bind (wpAny_rule (wpAny_bind (wpAny_setField ho hd (by simp) ?_)))
  show wpAny _ _ (newExc (.type "StopIteration") [] >>= _) _ _ _
  refine wpAny_bind ?_
  simp only [newExc, newTuple]
  refine wpAny_bind (wpAny_newObj_type ?_ (by size_fits))
  refine wpAny_bind (m := firstArgMember _ _) (wpAny_of_eq (a := Value.none) (by first | rfl | (simp only [firstArgMember]; rfl)) ?_)
  refine wpAny_newObj_type ?_ (by size_fits)
  have h1' := (Heap.get?_update_other s.heap (Obj.mapFields (·.setIfInBounds 0 Value.none)) (Ne.symm hne)).trans h1
  refine raiseNew_hot ⟨hh, o1, vs1, Heap.get?_push_of_some _ (Heap.get?_push_of_some _ h1'), d1, c1⟩ (Nat.ne_of_lt (Heap.lt_size (Heap.get?_push_of_some _ h1'))) (Heap.get?_push_size _ rfl) rfl (by first | (simp; done) | (simp; omega) | (simp only [Array.size_append]; simp; omega)) ?_
  refine wpAny_bind (wpAny_isInstance (T := "StopIteration") (b := true) ⟨_, Heap.get?_update_self _ (Heap.get?_push_size _ rfl) rfl, rfl⟩ isSubtype_stop ?_)
  refine wpAny_pure (hQ _ fun b o hb e => ?_)
  have e1 := (Heap.SameBut.update s.heap it (Obj.mapFields (·.setIfInBounds 0 Value.none))).extBut b o hb e
  rw [Heap.get?_update_other _ _ (Nat.ne_of_gt (Heap.lt_size (Heap.get?_push_of_some _ e1)))]
  exact Heap.get?_push_of_some _ (Heap.get?_push_of_some _ e1)
/-- a list walked there -/
theorem walks_list_hot {x1 : Addr} {o1 : Obj} {vs1 : Array Value} (hh : A.handled = some (.ref x1)) (d1 : o1.data = .fields vs1) (c1 : vs1[2]? = some .none) (I ax : Addr) (hne : ax ≠ I) (hn1 : x1 ≠ I) (items : Array Value) :
    Walks prog w A I [I, ax, x1] [I] items.size (fun i v => items[i]? = some v) (fun i h => h.IsListIter I ax i ∧ h.IsList ax items ∧ h.get? x1 = some o1) where
  sub := fun b hb => by simp at hb; simp [hb]
  frame := fun _ _ _ st hk => ⟨st.1.at fun o e => hk I (by simp) o e, st.2.1.at fun o e => hk ax (by simp) o e, hk x1 (by simp) _ st.2.2⟩
  item := fun i s Q E hi st hQ => by
    refine wpAny_pyNext_list_item st.1 st.2.1 (x := items[i]) (by simp [hi]) fun h' hit' hs' => ?_
    exact hQ _ h' s.toks (by simp [hi]) ⟨hit', st.2.1.extBut hs'.extBut hne, hs'.extBut x1 _ hn1 st.2.2⟩ fun b o hb e => hs'.extBut b o (fun h => hb (by simp [h])) e
  done := fun s Q E st hQ => next_list_end_hot ⟨hh, o1, vs1, st.2.2, d1, c1⟩ hn1 st.1 st.2.1 (by simp) fun h' he' => hQ h' s.toks fun b o hb e => he' b o (fun h => hb (by simp [h])) e
  self := fun _ _ _ _ st hQ => wpAny_pyIter_listiter st.1 hQ
/-- sum of a list of ints there -/
theorem sum_hot {l x1 : Addr} {o1 : Obj} {vs1 : Array Value} {its : List Value} {ns : List Int} {Q : Value → Shared → Prop} (hh : A.handled = some (.ref x1)) (h1 : s.heap.get? x1 = some o1) (d1 : o1.data = .fields vs1) (c1 : vs1[2]? = some .none) (hl : s.heap.IsList l its.toArray) (hi : IntsAre its ns)
    (h : ∀ h' tk t', (∀ b o, s.heap.get? b = some o → h'.get? b = some o) → Q (.int ns.sum t') { s with heap := h', toks := tk }) : wpAny (model prog w) A (call (.builtin "sum") [.ref l]) Q E s := by
  obtain ⟨xs, e⟩ := hi.allInts.items
  have hn : numsOf (intItems xs).toList = ns := by rw [← e]; exact hi.numsOf
  rw [nums_intItems] at hn
  rw [e] at hl
  refine call_sum_walkG (iter_intList hl fun s₂ e st hfp hlI => ?_)
  subst e
  have hlt := Heap.lt_size h1
  refine ⟨_, _, _, _, _, _, numAt xs, rfl, walks_list_hot (A := A.in1) hh d1 c1 _ l hlI (Nat.ne_of_lt hlt) (intItems xs), ⟨st.1, st.2, Heap.get?_push_of_some _ h1⟩, (fun b hb => ?_), (fun _ _ => intItems_at), fun h' tk t' hk => ?_⟩
  · rcases List.mem_cons.mp hb with rfl | hb
    · exact hfp _ (by simp)
    · rcases List.mem_cons.mp hb with rfl | hb
      · exact hfp _ (by simp)
      · rw [List.mem_singleton.mp hb, Heap.size_push]
        exact Nat.lt_succ_of_lt hlt
  · have := h h' tk t' (old_kept hk)
    rw [preSum_eq, List.take_of_length_le (by simp [intItems]), hn]
    exact this
end
end G9
namespace G9
open PySem PySem.Spec PyProof.Rows L2 G9S L2H HotX
/-! ### contexts in which p's exception is handled -/
structure HotI (X : Cx) (p : Addr × Obj) : Prop where
  hh : X.A.handled = some (.ref p.1)
  ctx : ∃ vs : Array Value, p.2.data = .fields vs ∧ vs[2]? = some .none
  at_ : ∀ {pins : List (Addr × Obj)} {σ : L2.St} {H : Hp} {s : Shared}, Inv X pins σ H s → s.heap.get? p.1 = some p.2 ∧ H p.1 = none ∧ p.1 ∉ X.fs ∧ p.1 ≠ X.env.locals
theorem hotI_fn {CX : CXT} {P : Program} {w : World} {K : PySem.W.Frag} {mg : Str → Option Value} {base : Heap} {N : List Str} {qual : Str} {scope : Scope} {f : Addr} {cd : Value} {A : Around} {outer : List Env} {s : Shared} {H : Hp} {E : XK} {p : Addr × Obj} (h : Hot1 A p) : HotI (cxH CX P w K mg base N qual scope f cd A outer s H E p) p :=
  ⟨h.1, h.2, fun I => let z := I.pin p (List.mem_append_left _ (List.mem_singleton.mpr rfl)); ⟨z.1, z.2.1, z.2.2.2.1, z.2.2.1⟩⟩
structure TurnI (p : Addr × Obj) (P : Program) (w : World) (K : PySem.W.Frag) (tg : Expr) (J : It) (fp : List Addr) (it : Addr) (tn : Nat → Heap → Prop) : Prop where
  mem : it ∈ fp
  obj : ∀ i h, tn i h → ∀ b ∈ fp, ∃ o, h.get? b = some o ∧ ∀ v, o.data ≠ .cell v
  keep : ∀ i h h', tn i h → (∀ b ∈ fp, ∀ o, h.get? b = some o → h'.get? b = some o) → tn i h'
  item : ∀ (X : Cx), X.prog = P → X.w = w → X.K = K → HotI X p → ∀ (i : Nat) (pins : List (Addr × Obj)) (s : Shared) (σ : L2.St) (H : Hp) (E : Value → Shared → Prop), Inv X pins σ H s → (∀ b ∈ fp, FpOk X pins H b) → tn i s.heap → J.go i H →
    wpAny (model P w) X.A (pyNext (.ref it)) (fun r s1 => ∃ u, r = some u ∧
      wpAny (model P w) X.A (letOwnedTupleGo tg (.ref it) u) (fun _ s2 => ∃ x H', Inv X pins σ H' s2 ∧ RelV x u ∧ J.yld i H x H' ∧ tn (i + 1) s2.heap ∧ ∀ b ∈ fp, H' b = none) E s1) E s
  done : ∀ (X : Cx), X.prog = P → X.w = w → X.K = K → HotI X p → ∀ (i : Nat) (pins : List (Addr × Obj)) (s : Shared) (σ : L2.St) (H : Hp) (E : Value → Shared → Prop), Inv X pins σ H s → (∀ b ∈ fp, FpOk X pins H b) → tn i s.heap → J.stop i H →
    wpAny (model P w) X.A (pyNext (.ref it)) (fun r s1 => r = none ∧ Inv X pins σ H s1) E s
  self : ∀ (A : Around) (i : Nat) (s : Shared) (Q : Value → Shared → Prop) (E : Value → Shared → Prop), tn i s.heap → Q (.ref it) s → wpAny (model P w) A (pyIter (.ref it)) Q E s
  far : p.1 ∉ fp
theorem turnI_list {p : Addr × Obj} {P : Program} {w : World} {K : PySem.W.Frag} {tg : Expr} (a it : Addr) (hn : p.1 ≠ it) : TurnI p P w K tg (Itl K a) [it] it (fun i h => h.IsListIter it a i) where
  mem := by simp
  obj := fun i h st b hb => by
    have e : b = it := by simpa using hb
    subst e
    obtain ⟨o, e, c, d⟩ := st
    exact ⟨o, e, fun v z => by rw [d] at z; cases z⟩
  keep := fun i h h' st k => st.at fun o e => k it (by simp) o e
  item := by
    intro X hP hw hK hc i pins s σ H E I hf st hg
    subst hP hw hK
    obtain ⟨xs, x, hq, hx⟩ := hg
    obtain ⟨its, rv, q, hz⟩ := I.list hq
    obtain ⟨u, hu, ru⟩ := rv.get hx
    obtain ⟨f0, f1, f2, f3, f4, f5⟩ := hf it (by simp)
    refine wpAny_pyNext_list_item st q.isList (x := u) (by simpa using hu) fun h' st' sb => ?_
    have I1 : Inv X pins σ H { s with heap := h' } := I.turned (t' := s.toks) (fun b o hb e => (sb.2 b hb).trans e) f0 f1 f3 f4 f5
    obtain ⟨o, e, c, d⟩ := id st'
    exact ⟨u, rfl, go_of (s := { s with heap := h' }) e c d (by decide) ⟨x, H, I1, ru, ⟨rfl, fun ys hy => by rw [I.list_inj hy hq]; exact hx⟩, st', fun b hb => (hf b hb).1⟩⟩
  done := by
    intro X hP hw hK hc i pins s σ H E I hf st hg
    subst hP hw hK
    obtain ⟨xs, hq, hx⟩ := hg
    obtain ⟨its, rv, q, hz⟩ := I.list hq
    obtain ⟨f0, f1, f2, f3, f4, f5⟩ := hf it (by simp)
    obtain ⟨vs, hv, hv2⟩ := hc.ctx
    have hl := rv.length
    exact next_list_end_hot ⟨hc.hh, p.2, vs, (hc.at_ I).1, hv, hv2⟩ hn st q.isList (by simp; omega) fun h' eb => ⟨rfl, I.turned (t' := s.toks) (fun b o hb e => eb b o hb e) f0 f1 f3 f4 f5⟩
  self := fun _ _ _ _ _ st h => wpAny_pyIter_listiter st h
  far := fun z => hn (by simpa using z)
def PIEI (p : Addr × Obj) (X : Cx) (pins : List (Addr × Obj)) (σ : L2.St) (tg : Expr) (R : It → Hp → Prop) (itv : Value) (s2 : Shared) : Prop :=
  ∃ (it : Addr) (fp : List Addr) (tn : Nat → Heap → Prop) (J : It) (H' : Hp), itv = .ref it ∧ Inv X pins σ H' s2 ∧ TurnI p X.prog X.w X.K tg J fp it tn ∧ tn 0 s2.heap ∧ (∀ b ∈ fp, FpOk X pins H' b) ∧ R J H'
structure PII (p : Addr × Obj) (X : Cx) (tg iter : Expr) (wi : TI) : Prop where
  run : ∀ (pins : List (Addr × Obj)) (s : Shared) (σ : L2.St) (H : Hp) (R : It → Hp → Prop), Inv X pins σ H s → wi σ H R →
    wpAny (model X.prog X.w) X.A (eval iter X.env) (fun v s1 => wpAny (model X.prog X.w) X.A (pyIter v) (PIEI p X pins σ tg R) X.xe s1) X.xe s
theorem pii_list {p : Addr × Obj} {X : Cx} {tg l : Expr} {tl : TE} (hot : HotI X p) (hl : PE X l tl) : PII p X tg l (iList X.K tl) := by
  refine ⟨fun pins s σ H R I h => ?_⟩
  refine thn (hl.run pins s σ H _ I h) fun v s1 ⟨x, H1, I1, r1, q1⟩ => ?_
  obtain ⟨a, e, ⟨xs, hq⟩, q⟩ := q1
  subst e
  cases r1
  obtain ⟨its, rv, p', hz⟩ := I1.list hq
  have hlt := Heap.lt_size (hot.at_ I1).1
  refine wpAny_pyIter_list p'.isList ?_
  refine ⟨s1.heap.objs.size, [s1.heap.objs.size], _, _, H1, rfl, I1.kept (t' := s1.toks) fun b o e => Heap.get?_push_of_some _ e, turnI_list a _ (Nat.ne_of_lt hlt), ⟨_, Heap.get?_push_size _ rfl, rfl, rfl⟩, fun b hb => ?_, q⟩
  have e : b = s1.heap.objs.size := by simpa using hb
  subst e
  exact I1.fpOk (Nat.le_refl _) (I1.hok.fresh (Nat.le_refl _))
theorem hotI_blk {X : Cx} {p : Addr × Obj} {pins : List (Addr × Obj)} {σ : L2.St} {H3 : Hp} {s3 : Shared} {scope : Scope} {ce : Env} {fp : List Addr} (h : HotI X p) (I : Inv X pins σ H3 s3) (hfp : p.1 ∉ fp) (cL : ce.locals = s3.heap.objs.size) : HotI (X.blk s3 H3 scope ce fp) p := by
  obtain ⟨h1, h2, h3, h4⟩ := h.at_ I
  have hfs : p.1 ∉ frs X.stack := fun z => (List.mem_cons.mp (I.stkSub _ z)).elim h4 h3
  refine ⟨h.hh, h.ctx, fun {pins' σ' H' s'} J => ⟨J.base.keep p.1 p.2 h1 h2 hfs hfp, J.base.free p.1 p.2 h1 h2 hfp, hfs, fun z => ?_⟩⟩
  have z : p.1 = ce.locals := z
  rw [cL] at z
  exact absurd (Heap.lt_size h1) (by rw [z]; exact Nat.lt_irrefl _)
section
variable {X : Cx} {p : Addr × Obj}
/-- [elt for target in iter if ..] there -/
theorem lc_hot {pins : List (Addr × Obj)} {s : Shared} {σ : L2.St} {H : Hp} {Q : VK} {elt tg iter : Expr} {ifs : List Expr} {scope : Scope} {own : List (Str × Nat)} {pos pos' : Pos} {wi : TI} {g : TG} {tt : TT} {te : TE} {use : Option (Value → Sem Unit)} {Qf : Value → Shared → Prop}
    (hot : HotI X p) (hN : X.N.Nodup) (I : Inv X pins σ H s) (hi : PII p X tg iter wi) (ok : BlkOk X.N X.env.scope scope own)
    (hg : ∀ (s : Shared) (H : Hp) (C : Addr) (cl : List (Str × Addr)) (fp : List Addr), PG (X.blk s H scope (compEnvC scope cl C X.env) fp) tg g) (ht : ∀ (s : Shared) (H : Hp) (C : Addr) (cl : List (Str × Addr)) (fp : List Addr), PTs (X.blk s H scope (compEnvC scope cl C X.env) fp) ifs tt)
    (he : ∀ (s : Shared) (H : Hp) (C : Addr) (cl : List (Str × Addr)) (fp : List Addr), PE (X.blk s H scope (compEnvC scope cl C X.env) fp) elt te) (hs : ∀ x, foldedSetIterable iter X.env x = pure x)
    (h : tLc wi g tt te (own.map (·.2)) σ H Q)
    (hRR : ∀ D C s' m H', Inv X pins σ H' s' → Q (.ref D) H' → s'.heap.Ns C m → FpOk X pins H' C → compPost (model X.prog X.w) X.A X.xe use Qf (.ref D) C (.ok .next) s') :
    wpAny (model X.prog X.w) X.A (comprehension (.ListComp elt [⟨tg, iter, ifs, 0⟩] scope pos) scope X.env pos' (newList []) false (eval iter X.env) use) Qf X.xe s := by
  have hfree : ∀ y ∈ scope.names, y.2 = .free → ∃ c, X.env.cells.lookup y.1 = some c := fun y hy e => by
    rcases ok.free y hy e with k | k
    · exact I.ok.has _ (.inl k)
    · exact I.ok.has _ (.inr k)
  refine wpAny_comprehension_free (use := use) rfl hs (closure_ok hfree) ok.kind (fun y hy e => by rw [ok.uniq y hy, e])
    (thn (hi.run pins s σ H _ I h) fun xv s1 hx => thn hx fun itv s2 h2 => ?_)
  obtain ⟨it, fp, tn, J, H2, e, I2, T, st2, f2, q⟩ := h2
  subst e
  refine wpAny_newObj_type (newEnv_comp ?_) (by show 0 ≤ sizeLine; decide)
  generalize hD : s2.heap.objs.size = D
  have hDn : H2 D = none := I2.hok.fresh (Nat.le_of_eq hD)
  obtain ⟨W, ⟨m0, w0⟩, turn⟩ := q D hDn
  generalize hs3 : ({ s2 with heap := s2.heap.push { cls := .type "list", data := .seq ([] : List Value).toArray } } : Shared) = s3
  have I3 : Inv X pins σ (upd H2 D (.lst [])) s3 := by
    rw [← hs3]
    refine I2.laid (t' := s2.toks) (fun b o e => Heap.get?_push_of_some _ e) (Nat.le_of_eq hD) ⟨Nat.zero_le _, [], 0, .nil, ?_⟩
    rw [← hD]
    exact Heap.get?_push_size _ rfl
  have h3 : s3.heap = s2.heap.push { cls := .type "list", data := .seq ([] : List Value).toArray } := by rw [← hs3]
  have sz : ∀ b ∈ fp, b < s2.heap.objs.size := fun b hb => by
    obtain ⟨o, e, _⟩ := T.obj _ _ st2 b hb
    exact Heap.lt_size e
  have f3 : ∀ b ∈ fp, FpOk X pins (upd H2 D (.lst [])) b ∧ b < s3.heap.objs.size := fun b hb => by
    have hlt := sz b hb
    refine ⟨⟨?_, (f2 b hb).2⟩, by rw [h3, Heap.size_push]; exact Nat.lt_succ_of_lt hlt⟩
    rw [upd_ne (by rw [← hD]; exact Nat.ne_of_lt hlt)]
    exact (f2 b hb).1
  have st3 : tn 0 s3.heap := T.keep _ _ _ st2 fun b _ o e => by rw [h3]; exact Heap.get?_push_of_some _ e
  have I4 := block_start I3 ok hN f3
  have pg := hg s3 (upd H2 D (.lst [])) s3.heap.objs.size (cellsFrom (s3.heap.objs.size + 1) scope.names (cloFrom X.env.cells scope.names [])) fp
  have pt := ht s3 (upd H2 D (.lst [])) s3.heap.objs.size (cellsFrom (s3.heap.objs.size + 1) scope.names (cloFrom X.env.cells scope.names [])) fp
  have pe := he s3 (upd H2 D (.lst [])) s3.heap.objs.size (cellsFrom (s3.heap.objs.size + 1) scope.names (cloFrom X.env.cells scope.names [])) fp
  show codeAny _ _ (.compStart (.ListComp elt [⟨tg, iter, ifs, 0⟩] scope pos) 0 (.ref it) (.ref D) (compEnvC scope (cellsFrom (s3.heap.objs.size + 1) scope.names (cloFrom X.env.cells scope.names [])) s3.heap.objs.size X.env)) (compPost (model X.prog X.w) X.A X.xe use Qf (.ref D) s3.heap.objs.size) { s3 with heap := pushCells (s3.heap.push { cls := .type "dict", data := .dict #[] }) scope.names }
  have nfp : ∀ b ∈ fp, (upd H2 D (.lst [])) b = none := fun b hb => (f3 b hb).1.1
  generalize hce : compEnvC scope (cellsFrom (s3.heap.objs.size + 1) scope.names (cloFrom X.env.cells scope.names [])) s3.heap.objs.size X.env = ce at I4 pg pt pe ⊢
  have cL : ce.locals = s3.heap.objs.size := by subst hce; rfl
  generalize hH3 : upd H2 D (.lst []) = H3 at I3 I4 pg pt pe w0 nfp f3
  have hb3 : HotI (X.blk s3 H3 scope ce fp) p := hotI_blk hot I3 T.far cL
  generalize hs4 : ({ s3 with heap := pushCells (s3.heap.push { cls := .type "dict", data := .dict #[] }) scope.names } : Shared) = s4 at I4 ⊢
  have st4 : tn 0 s4.heap := T.keep _ _ _ st3 fun b _ o e => by rw [← hs4]; exact pushCells_keeps _ _ _ _ (Heap.get?_push_of_some _ e)
  have stat : ∀ {σ' : L2.St} {H' : Hp} {s' : Shared}, Inv (X.blk s3 H3 scope ce fp) [] σ' H' s' → (∀ b ∈ fp, H' b = none) → ∀ b ∈ fp, FpOk (X.blk s3 H3 scope ce fp) [] H' b := fun {σ' H' s'} I' hn b hb =>
    ⟨hn b hb, (I'.ok.exf b hb).1, I'.ok.exfs b hb, .inl hb, fun x c e => (I'.ok.exf b hb).2 x c e, fun q hp => absurd (show q ∈ ([] : List (Addr × Obj)) ++ [] from hp) (by simp)⟩
  have loop : codeAny (model X.prog X.w) X.A (.compLoop (.ListComp elt [⟨tg, iter, ifs, 0⟩] scope pos) 0 (.ref it) (.ref D) ce) (compPost (model X.prog X.w) X.A X.xe use Qf (.ref D) s3.heap.objs.size) s4 := by
    refine compLoop_any (fun n s' => ∃ i H', Inv (X.blk s3 H3 scope ce fp) [] (wipe σ (own.map (·.2))) H' s' ∧ tn i s'.heap ∧ (∀ b ∈ fp, H' b = none) ∧ W i n H') ?_ m0 ⟨0, H3, I4, st4, nfp, w0⟩
    rintro n s5 ⟨i, H5, I5, st5, n5, w5⟩
    rcases turn i n H5 w5 with ⟨stop, qq⟩ | ⟨go, Nx, hNx, step⟩
    · have td := T.done (X.blk s3 H3 scope ce fp) rfl rfl rfl hb3 i [] s5 _ H5 (fun _ _ => False) I5 (stat I5 n5) st5 stop
      refine thnF td fun r s6 ⟨hr, I6⟩ => ?_
      subst hr
      have I7 : Inv X pins σ H5 s6 := I3.call' (ch := fp) I6.os I6.base I6.hok I6.bare fun b hb => ⟨(f3 b hb).1.2.2.2.1, (f3 b hb).1.2.1, (f3 b hb).1.2.2.2.2.1, (f3 b hb).1.2.2.2.2.2⟩
      have nC : H5 s3.heap.objs.size = none := by
        have z : H5 ce.locals = none := I6.free
        rw [cL] at z
        exact z
      obtain ⟨m, hn, _⟩ := I6.loc
      have hn : s6.heap.Ns ce.locals m := hn
      rw [cL] at hn
      exact hRR D s3.heap.objs.size s6 m H5 I7 qq hn (I3.fpOk (Nat.le_refl _) nC)
    · have ti := T.item (X.blk s3 H3 scope ce fp) rfl rfl rfl hb3 i [] s5 _ H5 (fun _ _ => False) I5 (stat I5 n5) st5 go
      refine thnF ti fun r s6 ⟨u, hr, h6⟩ => ?_
      subst hr
      refine thnF h6 fun _ s7 ⟨x, H7, I7, r7, y7, st7, n7⟩ => ?_
      have I7' := I7.pinned (stat I7 n7) (T.obj _ _ st7)
      refine thnF (pg.run _ s7 _ H7 x u _ I7' r7 (step x H7 y7)) fun _ s8 ⟨σ8, H8, I8, hw8, q8⟩ => ?_
      refine thnF (pt.run _ s8 σ8 H8 _ I8 q8) fun b s9 ⟨H9, I9, q9⟩ => ?_
      have fin : ∀ {s' : Shared} {H' : Hp}, Inv (X.blk s3 H3 scope ce fp) ([] ++ pinsAt fp s7.heap) σ8 H' s' → Nx H' → ∃ m, m < n ∧ ∃ i H', Inv (X.blk s3 H3 scope ce fp) [] (wipe σ (own.map (·.2))) H' s' ∧ tn i s'.heap ∧ (∀ b ∈ fp, H' b = none) ∧ W i m H' := fun {s' H'} I' nx => by
        obtain ⟨m', hm, w'⟩ := hNx H' nx
        have pin' : ∀ b ∈ fp, ∀ o, s7.heap.get? b = some o → s'.heap.get? b = some o ∧ H' b = none := fun b hb o e =>
          let z := I'.pin (b, o) (List.mem_append_right _ (List.mem_append_right _ (mem_pinsAt hb e)))
          ⟨z.1, z.2.1⟩
        have hl : (wipe σ (own.map (·.2))).length = σ8.length := by rw [← hw8, wipe_length]
        refine ⟨m', hm, i + 1, H', (I'.unpinned (pins := [])).weak hl (fun j v e => ?_), T.keep _ _ _ st7 fun b hb o e => (pin' b hb o e).1, fun b hb => ?_, w'⟩
        · rw [← hw8] at e
          exact (wipe_some e).1
        · obtain ⟨o, e, _⟩ := T.obj _ _ st7 b hb
          exact (pin' b hb o e).2
      cases b with
      | false =>
        simp only [Bool.false_eq_true, if_false] at q9 ⊢
        exact fin I9 q9
      | true =>
        simp only [if_true] at q9 ⊢
        refine thnF (pe.run _ s9 σ8 H9 _ I9 q9) fun z s10 ⟨yv, H10, I10, r10, acc, hD10, hz10, nx⟩ => ?_
        exact app_ok (X := X.blk s3 H3 scope ce fp) I10 hD10 hz10 r10 fun s11 I11 => fin I11 nx
  exact codeAny_compStart_list loop (T.self X.A 0 _ _ _ st4 loop)
theorem pe_lcI {elt tg iter : Expr} {ifs : List Expr} {scope : Scope} {own : List (Str × Nat)} {pos : Pos} {wi : TI} {g : TG} {tt : TT} {te : TE} (hot : HotI X p) (hN : X.N.Nodup) (hi : PII p X tg iter wi) (ok : BlkOk X.N X.env.scope scope own)
    (hg : ∀ (s : Shared) (H : Hp) (C : Addr) (cl : List (Str × Addr)) (fp : List Addr), PG (X.blk s H scope (compEnvC scope cl C X.env) fp) tg g) (ht : ∀ (s : Shared) (H : Hp) (C : Addr) (cl : List (Str × Addr)) (fp : List Addr), PTs (X.blk s H scope (compEnvC scope cl C X.env) fp) ifs tt)
    (he : ∀ (s : Shared) (H : Hp) (C : Addr) (cl : List (Str × Addr)) (fp : List Addr), PE (X.blk s H scope (compEnvC scope cl C X.env) fp) elt te) (hs : ∀ x, foldedSetIterable iter X.env x = pure x := by intro _; rfl) :
    PE X (.ListComp elt [⟨tg, iter, ifs, 0⟩] scope pos) (tLc wi g tt te (own.map (·.2))) := by
  refine ⟨fun pins s σ H Q I h => ?_⟩
  rw [eval_ListComp]
  refine lc_hot hot hN I hi ok hg ht he hs h fun D C s' m H' I' q hn f => ⟨m, hn, fun h'' sb => ?_⟩
  obtain ⟨f0, f1, f2, f3, f4, f5⟩ := f
  exact ⟨.ref D, H', I'.turned (t' := s'.toks) (fun b o hb e => (sb.2 b hb).trans e) f0 f1 f3 f4 f5, rfl, q⟩
theorem cr_sumI (hot : HotI X p) : CallR X (.builtin "sum") (rSum X.K) := by
  intro pins s σ H vs us Q I r h
  obtain ⟨a, ns, rfl, hs, q⟩ := h
  obtain ⟨its, rv, hl, _⟩ := I.list hs
  obtain ⟨vs1, d1, c1⟩ := hot.ctx
  rw [Vals.ref1 r]
  exact sum_hot hot.hh (hot.at_ I).1 d1 c1 hl.isList rv.ints fun h' tk t' hk => ⟨.int _, H, I.kept hk, ⟨_, rfl⟩, q⟩
end
/-! ### a def that is told of the handled exception -/
structure FnT (P : Program) (w : World) (K : PySem.W.Frag) (mg : Str → Option Value) (base : Heap) (k : Nat) (f : Addr) (fd : FuncData) (ps : List Str) (sp : Addr × Obj → Sp) : Prop where
  len : ∀ p vs H Q E, sp p vs H Q E → vs.length = ps.length
  run : ∀ (A : Around) (outer : List Env) (s : Shared) (H : Hp) (args : Args) (us : List Value) (vs : List V) (Q : VK) (E : XK) (p : Addr × Obj), RoomH k A → Hot1 A p → PinOk outer H s p → Env0 P w K mg base A outer s H → BindsTo s fd args (ps.zip us) → Vals vs us → sp p vs H Q E →
    codeAny (model P w) A (.call (.ref f) args) (CR CX0 outer P w H s Q E) s
theorem fn_ofT {P : Program} {w : World} {K : PySem.W.Frag} {mg : Str → Option Value} {base : Heap} {k : Nat} {f : Addr} {fd : FuncData} {x qual : Str} {st : Stmt} {N ps : List Str} {sp : Addr × Obj → Sp} (F : Fun K x qual st f fd) (S : FnScope N ps (defScope st))
    (len : ∀ p vs H Q E, sp p vs H Q E → vs.length = ps.length)
    (hbody : ∀ (cdv : Value) (A : Around) (outer : List Env) (s : Shared) (H : Hp) (vs : List V) (Q : VK) (E : XK) (p : Addr × Obj), Hot1 A p → RoomH k (A.deeper (envOfC qual (defScope st) s.heap.objs.size f cdv)) → sp p vs H Q E →
      wB (cxH CX0 P w K mg base N qual (defScope st) f cdv A outer s H E p) (defBody st) { nx := fun _ H' => Q .non H', rt := Q } (L2.start N vs) H) :
    FnT P w K mg base (k + 1) f fd ps sp := by
  obtain ⟨oc, od, kV, doc, pm, an, cdv, ct, osl, rfl, lk, hcd⟩ := F.ex
  refine ⟨len, fun A outer s H args us vs Q E p hr hot hpin e0 hb r hsp => ?_⟩
  have hl := len _ _ _ _ _ hsp
  have KX : K.In s.heap := e0.mod.kin.keeps fun b o e => (e0.bs b o e).1
  have lim : s.heap.NoLimit := e0.mod.nolimit.keeps fun b o e => (e0.bs b o e).1
  have hkind : ∀ y ∈ ps.zip us, (defScope st).names.lookup y.1 = some .local ∨ ((defScope st).names.lookup y.1 = some .cell ∧ ((cellsFrom (s.heap.objs.size + 1) (defScope st).names []).lookup y.1).isSome = true) := fun ⟨n, v⟩ hy => by
    rcases S.par n (List.of_mem_zip hy).1 with q | q
    · exact .inl q
    · exact .inr ⟨q, PySem.W.cellsFrom_some _ _ _ (.inl q)⟩
  refine codeAny_call_function hr.depth (KX _ _ lk) rfl S.co S.gen rfl (PySem.W.codeRec_of KX hcd) (hb _ _ _ _ ?_)
  refine wpAny_newFunctionEnv_cells S.kind hkind fun env he s1 x => ?_
  subst he
  refine ⟨lim.keeps x.toInCall.keep, codeAny_func ?_⟩
  have hq := hbody cdv A outer s H vs Q E p hot (hr.deeper _) hsp
  have I : Inv (cxH CX0 P w K mg base N qual (defScope st) f cdv A outer s H E p) [] (L2.start N vs) H s1 := inv_startH S hpin e0 hl r x
  refine wpAny_mono (hq [] s1 I) (fun fl s' hs => ?_) fun e s' hs => hs
  have fin : ∀ {σ' : L2.St} {H' : Hp} {v : V} {u : Value}, Inv (cxH CX0 P w K mg base N qual (defScope st) f cdv A outer s H E p) [] σ' H' s' → RelV v u → Q v H' → CE outer P w H s Q u s' :=
    fun {σ' H' v u} J rv q => ⟨v, H', J.os, J.bare, J.base, J.hok, rv, q⟩
  cases fl with
  | ret u =>
    obtain ⟨v, σ', H', J, rv, q⟩ := hs
    exact fin J rv q
  | next =>
    obtain ⟨σ', H', J, q⟩ := hs
    exact fin (v := V.non) (u := Value.none) J rfl q
  | brk =>
    obtain ⟨_, _, _, q⟩ := hs
    exact False.elim q
  | cont =>
    obtain ⟨_, _, _, q⟩ := hs
    exact False.elim q
theorem pe_callT {X : Cx} {k : Nat} {f : Addr} {fd : FuncData} {ps : List Str} {sp : Addr × Obj → Sp} {x : Str} {q pos : Pos} {e : Expr} {es : List Expr} {t : TA} {p : Addr × Obj} (F : FnT X.prog X.w X.K X.mg X.base k f fd ps sp) (hr : RoomH k X.A) (hot : Hot1 X.A p) (hp : p ∈ X.pn) (hg : Gl X x) (hm : X.mg x = some (.ref f)) (hk : PySem.W.keepIn X.K (.ref f) = true) (hb : Binds X.K fd ps [])
    (ha : PA X (e :: es) t) (hdb : (x == ("__debug__" : Str)) = false := by decide) (he : starEach (e :: es) X.env = (false, eval e X.env) :: starEach es X.env := by rfl) (hpl : (backTo pos (starEach es X.env)).any (·.1) = false := by rfl) :
    PE X (.Call (.Name x q) (e :: es) [] pos) (tCallS (sp p) (fun _ => E0) t) := by
  refine ⟨fun pins s σ H Q I h => ?_⟩
  refine wpAny_Call_Name_kw (ld_glob I hg hm ?_ hdb)
  refine PySem.W.callWith_K (h₀ := X.base) I.ok.mod.kin hk (thn (ha.run pos pins s σ H _ I h) fun us s1 ⟨vs, H1, I1, r, q⟩ => ⟨I1.kIn, ?_⟩) he hpl
  have hl : us.length = ps.length := by rw [← r.length]; exact F.len _ _ _ _ _ q
  have b := hb s1 us I1.kIn (by rw [List.append_nil]; exact hl)
  rw [List.append_nil] at b
  have P1 := I1.pin p (List.mem_append_left _ hp)
  have hpin : PinOk X.stack H1 s1 p := ⟨P1.1, P1.2.1, fun hm => (List.mem_cons.mp (I1.stkSub p.1 hm)).elim P1.2.2.1 P1.2.2.2.1, P1.2.2.2.2⟩
  refine wpAny_call (codeAny_mono (F.run X.A X.stack s1 H1 ⟨us, []⟩ us vs Q E0 p hr hot hpin I1.env0 b r q) fun r s' hq => ?_)
  cases r with
  | error e => exact (show False from hq).elim
  | ok fl =>
    cases fl with
    | ret u => exact I1.after hq
    | next => exact False.elim hq
    | brk => exact False.elim hq
    | cont => exact False.elim hq
/-- isinstance(e, c), e the handled exception -/
theorem call_isI {X : Cx} {p : Addr × Obj} {D : Addr} (hot : HotI X p) (C : ExcC X.K D) (hz : Zc (.ref D) none p.2) : CallR X (.builtin "isinstance") (rIsE X.K D p.1) := by
  intro pins s σ H xs us Q I r h
  obtain ⟨c, cv, b, rfl, hcv, e, q⟩ := h
  cases r with
  | cons rx rr =>
    cases rr with
    | cons rt rr =>
      cases rr
      cases rx
      have ec := hcv _ rt
      subst ec
      have hget := (hot.at_ I).1
      obtain ⟨vs, hv, _⟩ := hot.ctx
      have J : PySem.W.InstAt s.heap p.1 p.2 D none := by
        obtain ⟨a, oc, od, oda, osl⟩ := p
        obtain ⟨h1, h2⟩ := hz
        dsimp only at h1 h2 hv hget ⊢
        subst h1 h2 hv
        exact ⟨hget, rfl, rfl, trivial⟩
      exact PySem.W.kia_one (PySem.W.handS_kitx_exc C.hg C.hk C.hs C.hd C.ha C.hn C.ht C.hm) I.kIn J e (fun z => nomatch z) fun tk => ⟨.bl b, H, I.kept (t' := tk) fun _ _ z => z, rfl, q⟩
section
variable {X : Cx} {H0 : Hp} {ρ : Ro} {elt iter : Expr} {ifs : List Expr} {pos pn : Pos} {t : Str} {scope : Scope} {α : Type} {p : Addr × Obj}
/-- [elt for t in a list] there -/
theorem l_lcI (hot : HotI X p) (j : Nat) (enc : α → D) (xs : List α) (g : α → D) (hsrc : Ev X H0 ρ iter (.lst (xs.map enc))) (hz : xs.length ≤ 100000)
    (he : ∀ x ∈ xs, ∀ (s : Shared) (H : Hp) (C : Addr) (cl : List (Str × Addr)) (fp : List Addr), Ev (X.blk s H scope (compEnvC scope cl C X.env) fp) H0 ((wipeD ρ [j]).set j (some (enc x))) elt (g x)) (hN : X.N.Nodup := by assumption)
    (hg : ∀ (s : Shared) (H : Hp) (C : Addr) (cl : List (Str × Addr)) (fp : List Addr), PG (X.blk s H scope (compEnvC scope cl C X.env) fp) (.Name t pn) (gName j) := by first | exact fun _ _ _ _ _ => pg_name (by assumption) rfl (Or.inl rfl) | exact fun _ _ _ _ _ => pg_name (by assumption) rfl (Or.inr rfl))
    (ok : BlkOk X.N X.env.scope scope [(t, j)] := by exact blkOk_by (by first | kernel_rfl | rfl)) (hs : ∀ x, foldedSetIterable iter X.env x = pure x := by intro _; rfl) :
    EvL X H0 ρ (.ListComp elt [⟨.Name t pn, iter, [], 0⟩] scope pos) (xs.map g) := by
  have hw := c_core (elt := elt) (ifs := []) (scope := scope) enc xs (fun _ => true) g j (src_lst hsrc) hz (fun _ _ _ _ _ _ _ => ts_nil) fun x hx _ => he x hx
  rw [List.filter_eq_self.mpr fun _ _ => rfl] at hw
  intro σ G H sg sh en Q q
  exact wE_of (pe_lcI (tt := bT X scope []) (te := bE X scope elt) (own := [(t, j)]) hot hN (pii_list hot pw) ok hg (fun s H C cl fp => ⟨fun pins s1 σ1 H1 Q1 I h => h s H C cl fp pins s1 I⟩) (fun s H C cl fp => ⟨fun pins s1 σ1 H1 Q1 I h => h s H C cl fp pins s1 I⟩) hs) (hw σ G H sg sh en Q q)
end
end G9

/-! Layer L: a lambda handed on that may raise (exceptions without a context). -/
namespace G9
open PySem PySem.Spec PyProof.Rows L2 G9S L2H HotX
open LamX (Tabs ExtN CodeO TabB LamS lamEnv)
/-- the context of the lambda's body -/
abbrev lamCxN (X : Cx) (A : Around) (outer : List Env) (s : Shared) (H : Hp) (E : XK) (scope : Scope) (f c' : Addr) : Cx :=
  { LamX.lamCx X A outer s H E scope f c' with xe := fun e s' => wpAny (model X.prog X.w) (A.deeper (lamEnv X scope s.heap.objs.size f c')) (leaving (lamEnv X scope s.heap.objs.size f c') e) (fun _ s'' => L2N.CX X.prog X.w outer H s E e s'') (fun e' s'' => L2N.CX X.prog X.w outer H s E e' s'') s' }
theorem inv_xe {X : Cx} {pins : List (Addr × Obj)} {σ : L2.St} {H : Hp} {s : Shared} {xe : Value → Shared → Prop} (I : Inv X pins σ H s) : Inv { X with xe := xe } pins σ H s :=
  ⟨⟨I.ok.mod, I.ok.kind, I.ok.glob, I.ok.blt, I.ok.above, I.ok.inj, I.ok.has, I.ok.cab, I.ok.hd, I.ok.frames, I.ok.stk, I.ok.exf, I.ok.bs, I.ok.bsz, I.ok.noex, I.ok.exfs, I.ok.funs, I.ok.frf⟩, I.os, I.bare, I.base, I.loc, I.cell, I.free, I.freeC, I.pin, I.hok, I.len⟩
section
variable {X : Cx} {pins : List (Addr × Obj)} {σ : L2.St} {H HZ : Hp} {s s1 : Shared}
theorem pe_actN {CXg : CXT} {Eg : XK} {Ng : List Str} {qg : Str} {sg : Scope} {g f c' : Addr} {cdg pm ctv : Value} {params : Arguments} {body : Expr} {scope : Scope} {k i : Nat} {a : Str} {pn : List (Addr × Obj)} {xe : Value → Shared → Prop} {W : WX} {E : XK} {tb : TE} {p1 p2 : Pos}
    (I : Inv X pins σ H s) (L : LamS X.env.scope scope) (hf : s.heap.get? f = some (PySem.W.kla_obj "<lambda>" (X.env.qual ++ "<lambda>") params body scope (cloFrom X.env.cells scope.names []) pm c' ctv)) (hfn : H f = none) (hfr : f ∉ frs X.stack)
    (hbind : bindArgs (PySem.W.kla_fn "<lambda>" (X.env.qual ++ "<lambda>") params body scope (cloFrom X.env.cells scope.names []) pm (.ref c') ctv) ⟨[], []⟩ = pure [])
    (tk : L2N.Takes ((cxOf CXg X.prog X.w X.K X.mg X.base Ng qg sg g cdg X.A X.stack s H Eg).tr pn xe) W) (hW : ∀ cls d σ' H', E cls d H' → W cls d σ' H') (hr : Room (k + 1) (X.A.deeper (envOfC qg sg s.heap.objs.size g cdg)))
    (hbody : ∀ (A : Around) (outer : List Env) (s : Shared) (H : Hp), Room k (A.deeper (lamEnv X scope s.heap.objs.size f c')) → PE (lamCxN X A outer s H E scope f c') body tb)
    (hN : Ng[i]? = some a) (hv : Vis sg a) (hd : (a == ("__debug__" : Str)) = false := by decide) (hcd : (a == ("__classdict__" : Str)) = false := by decide) :
    PE ((cxOf CXg X.prog X.w X.K X.mg X.base Ng qg sg g cdg X.A X.stack s H Eg).tr pn xe) (.Call (.Name a p1) [] [] p2)
      (fun σZ HZ Q => σZ[i]? = some (some (.ref f)) ∧ HZ c' = some (CodeO c' (X.env.qual ++ "<lambda>")) ∧ tb σ HZ Q) := by
  refine ⟨fun pinsZ sZ σZ HZ Q IZ h => ?_⟩
  obtain ⟨hs, hc, ht⟩ := h
  refine wpAny_Call_Name_kw (thn ((pe_var (pos := p1) (i := i) hN hv hd hcd).run pinsZ sZ σZ HZ (fun v H1 => v = .ref f ∧ H1 = HZ) IZ ⟨.ref f, hs, rfl, rfl⟩) fun u s1 ⟨v, H1, I1, r1, q1⟩ => ?_)
  obtain ⟨ev, eH⟩ := q1
  subst ev
  rw [eH] at I1
  obtain rfl : u = Value.ref f := r1
  have of1 : s1.heap.get? f = some (PySem.W.kla_obj "<lambda>" (X.env.qual ++ "<lambda>") params body scope (cloFrom X.env.cells scope.names []) pm c' ctv) := I1.base.keep f _ hf hfn hfr (fun z => nomatch (show f ∈ ([] : List Addr) from z))
  refine PySem.W.callWith_F0 ⟨_, _, _, _, of1⟩ ?_
  have un : Un (frs X.stack) [] H HZ s.heap s1.heap := I1.base
  obtain ⟨⟨oc, vs, t, hoc, hdc, hvc⟩, _, _⟩ := I1.hok c' _ hc
  have rc : codeAny (model X.prog X.w) (X.A.deeper (envOfC qg sg s.heap.objs.size g cdg)) (.call (.ref f) ⟨[], []⟩) (CR (L2N.CX X.prog X.w) (envOfC qg sg s.heap.objs.size g cdg :: X.stack) X.prog X.w HZ s1 Q E) s1 := by
    refine PySem.W.kla_callFunE hr.depth of1 rfl L.co L.gen rfl ⟨c', oc, vs, t, rfl, hoc, hdc, hvc⟩ ?_
    rw [hbind]
    refine wpAny_pure (wpAny_newFunctionEnv (fun y hy => (L.own y hy).2) (fun y hy => absurd hy (by simp)) (fun h₁ hns hsb => ⟨I1.nolimit.fresh _ hsb, ?_⟩) L.kind)
    show codeAny _ _ (.expr body (lamEnv X scope s1.heap.objs.size f c')) _ _
    have kp : ∀ b o, s1.heap.get? b = some o → h₁.get? b = some o := fun b o e => hsb.extBut b o (Nat.ne_of_lt (Heap.lt_size e)) (Heap.get?_push_of_some _ e)
    have J0 : Inv (LamX.lamCx X (X.A.deeper (envOfC qg sg s.heap.objs.size g cdg)) (envOfC qg sg s.heap.objs.size g cdg :: X.stack) s1 HZ E scope f c') [] σ HZ { s1 with heap := h₁, toks := s1.toks + ([] : List (Str × Value)).length } :=
      LamX.lam_start2 I L I1.env0 hr.hd un hns kp
    have J : Inv (lamCxN X (X.A.deeper (envOfC qg sg s.heap.objs.size g cdg)) (envOfC qg sg s.heap.objs.size g cdg :: X.stack) s1 HZ E scope f c') [] σ HZ { s1 with heap := h₁, toks := s1.toks + ([] : List (Str × Value)).length } := inv_xe J0
    refine PySem.W.kla_codeExpr (wpAny_mono ((hbody _ _ s1 HZ (hr.deeper _)).run [] _ _ HZ Q J ht) (fun v s' hq => ?_) fun e s' hq => hq)
    obtain ⟨w', H', J', rv, q⟩ := hq
    exact ⟨w', H', J'.os, J'.bare, J'.base, J'.hok, rv, q⟩
  have hx : Passes (L2N.CX X.prog X.w) ((cxOf CXg X.prog X.w X.K X.mg X.base Ng qg sg g cdg X.A X.stack s H Eg).tr pn xe) E := L2N.passes_call tk hW
  refine wpAny_call (codeAny_mono rc fun r s' hq => ?_)
  cases r with
  | error e => exact hx pinsZ σZ HZ s1 e s' I1 hq
  | ok fl =>
    cases fl with
    | ret u => exact I1.after hq
    | next => exact False.elim hq
    | brk => exact False.elim hq
    | cont => exact False.elim hq
end
/-- the def that calls what it got -/
def GivesN (X : Cx) (k : Nat) (Ng : List Str) (x : Str) (sg : Scope) (g : Addr) (cdg : Value) (bg : List Stmt) (a : Str) (q : Str) (TT : (XK → Hp → VK → Prop) → Hp → VK → Prop) : Prop :=
  ∀ (f c' : Addr) (s : Shared) (H : Hp) (Q : VK) (tl : XK → Hp → VK → Prop), Room k (X.A.deeper (envOfC x sg s.heap.objs.size g cdg)) →
    (∀ (W : WX) (pn : List (Addr × Obj)) (xe : Value → Shared → Prop) (E : XK) (p1 p2 : Pos), L2N.Takes ((cxOf C8.CX0 X.prog X.w X.K X.mg X.base Ng x sg g cdg X.A X.stack s H C8.E0).tr pn xe) W → (∀ cls d σ' H', E cls d H' → W cls d σ' H') →
      PE ((cxOf C8.CX0 X.prog X.w X.K X.mg X.base Ng x sg g cdg X.A X.stack s H C8.E0).tr pn xe) (.Call (.Name a p1) [] [] p2) (fun σZ HZ Q => σZ[0]? = some (some (.ref f)) ∧ HZ c' = some (CodeO c' q) ∧ tl E HZ Q)) →
    H c' = some (CodeO c' q) → TT tl H Q →
    ∃ t, PSs (cxOf C8.CX0 X.prog X.w X.K X.mg X.base Ng x sg g cdg X.A X.stack s H C8.E0).nox bg t ∧ t { nx := fun _ H' => Q .non H', rt := Q } (L2.start Ng [.ref f]) H
theorem pe_lamcallN {X : Cx} {T : List (Addr × Str)} {TT : (XK → Hp → VK → Prop) → Hp → VK → Prop} {x a : Str} {g c P : Addr} {k : Nat} {pg : Arguments} {bg : List Stmt} {sg : Scope} {dV kV doc pm cdv ct oc : Value} {an od : Option Addr} {osl : Array (Option Value)} {Ng : List Str}
    {params : Arguments} {body : Expr} {scope : Scope} {t : XK → TE} {p lpos pos : Pos} (hg : Gl X x) (hm : X.mg x = some (.ref g)) (hk : PySem.W.keepIn X.K (.ref g) = true)
    (lk : X.K.lookup g = some ⟨oc, od, .func (PySem.W.fnOf x x pg bg sg dV kV doc pm an cdv ct), osl⟩) (hcg : PySem.W.codeIn X.K cdv x = true) (hb : L2.Binds X.K (PySem.W.fnOf x x pg bg sg dV kV doc pm an cdv ct) [a] []) (Sg : FnScope Ng [a] sg) (hNg : Ng[0]? = some a) (hva : Vis sg a)
    (hG : GivesN X (k + 1) Ng x sg g cdv bg a (X.env.qual ++ "<lambda>") TT)
    (TB : TabB X.base X.mg c P) (hcode : X.env.code = .ref c) (hmT : (P, X.env.qual ++ "<lambda>") ∈ T) (hu : ∀ p ∈ T, p.1 = P → p.2 = X.env.qual ++ "<lambda>") (hr : Room (k + 2) X.A) (L : LamS X.env.scope scope) (hdef : defaultsOf params X.env = ([], []))
    (hbind : ∀ (q : Str) (cl : List (Str × Addr)) (pm cv ctv : Value), bindArgs (PySem.W.kla_fn "<lambda>" q params body scope cl pm cv ctv) ⟨[], []⟩ = pure [])
    (hbody : ∀ (A : Around) (outer : List Env) (s : Shared) (H : Hp) (E : XK) (f c' : Addr), Room k (A.deeper (lamEnv X scope s.heap.objs.size f c')) → PE (lamCxN X A outer s H E scope f c') body (t E))
    (hdb : (x == ("__debug__" : Str)) = false := by decide) (hd : (a == ("__debug__" : Str)) = false := by decide) (hcd : (a == ("__classdict__" : Str)) = false := by decide) :
    PE X (.Call (.Name x p) [.Lambda params body scope lpos] [] pos) (LamX.tLam T TT t) := by
  refine ⟨fun pins s σ H Q I h => ?_⟩
  obtain ⟨hT, h⟩ := h
  refine wpAny_Call_Name_kw (ld_glob I hg hm ?_ hdb)
  refine PySem.W.callWith_K (h₀ := X.base) I.ok.mod.kin hk ?_ (by rfl) (by rfl)
  show wpAny _ _ (spliced ((false, eval (.Lambda params body scope lpos) X.env) :: backTo pos (starEach [] X.env))) _ _ s
  refine Calls.spliced_cons (LamX.lam_make2 I TB hcode hmT hu hT hdef (L.has I.ok) fun f c' pm' ctv H1 s' I1 eN T1 hf hfn hfr hco => ?_)
  refine Calls.spliced_nil ⟨I1.kIn, ?_⟩
  have rc : codeAny (model X.prog X.w) X.A (.call (.ref g) ⟨[.ref f], []⟩) (CR C8.CX0 X.stack X.prog X.w H1 s' Q C8.E0) s' := by
    refine LamX.run_ofS (N := Ng) (ps := [a]) (us := [.ref f]) (vs := [.ref f]) lk hcg Sg hr I1.env0 (hb s' [.ref f] I1.kIn rfl) (.cons rfl .nil) rfl fun hr' => ?_
    obtain ⟨t', ht', hq'⟩ := hG f c' s' H1 Q (fun E H' Q' => t E σ H' Q') hr' (fun W pn xe E p1 p2 tk hW => pe_actN (i := 0) I1 L hf hfn hfr (hbind _ _ _ _ _) tk hW hr' (fun A outer s H hr2 => hbody A outer s H E f c' hr2) hNg hva hd hcd) hco (h H1 eN T1)
    exact ⟨t', ht'.nox, hq'⟩
  refine wpAny_call (codeAny_mono rc fun r s2 hq => ?_)
  cases r with
  | error e => exact (show False from hq).elim
  | ok fl =>
    cases fl with
    | ret u => exact I1.after hq
    | next => exact False.elim hq
    | brk => exact False.elim hq
    | cont => exact False.elim hq
theorem takes0N {X : Cx} : L2N.Takes X (fun _ _ _ _ => False) := fun _ _ x => by
  obtain ⟨_, _, _, _, _, _, _, _, _, _, _, _, _, _, _, _, z⟩ := x
  exact z.elim
end G9

/-! Layer N: defs that may raise (exceptions without a context). -/
namespace G9
open PySem PySem.Spec PyProof.Rows L2 G9S L2H HotX
section
variable {P : Program} {w : World} {K : PySem.W.Frag} {mg : Str → Option Value} {base : Heap}
/-- a def that may raise, its body by the weakest reading -/
theorem okN {x qual : Str} {st : Stmt} {f : Addr} {fd : FuncData} {N ps : List Str} {k : Nat} {sp : Sp} (F : Fun K x qual st f fd) (S : FnScope N ps (defScope st)) (len : ∀ vs H Q E, sp vs H Q E → vs.length = ps.length)
    (hbody : ∀ (cdv : Value) (A : Around) (outer : List Env) (s : Shared) (H : Hp) (E : XK) (vs : List V) (Q : VK), Room k (A.deeper (envOfC qual (defScope st) s.heap.objs.size f cdv)) → sp vs H Q E →
      L2N.Takes (cxOf (L2N.CX P w) P w K mg base N qual (defScope st) f cdv A outer s H E) (fun cls d _ H => E cls d H) →
      wB (cxOf (L2N.CX P w) P w K mg base N qual (defScope st) f cdv A outer s H E) (defBody st) { nx := fun _ H' => Q .non H', rt := Q } (L2.start N vs) H) : FnOk P w K mg base (L2N.CX P w) (k + 1) f fd ps sp := by
  obtain ⟨oc, od, kV, doc, pm, an, cdv, ct, osl, rfl, lk, hcd⟩ := F.ex
  exact fn_of lk hcd S len fun A outer s H vs Q E hr hsp => ⟨_, pbw, hbody cdv A outer s H E vs Q hr hsp (L2N.takes_of rfl rfl rfl rfl)⟩
/-- an own class over ValueError, without __init__ -/
structure ExcT (K : PySem.W.Frag) (mg : Str → Option Value) (x : Str) (C : Addr) : Prop where
  m : mg x = some (.ref C)
  q : PySem.W.excIn K C [.type "ValueError", .type "Exception", .type "BaseException", .type "object"] "ValueError.__new__" = true
  k : PySem.W.keepIn K (.ref C) = true
  sb : PySem.W.subIn K (.ref C) (.type "BaseException") = some true
  ty : PySem.W.typeIn K (.ref C) = some (.type "type")
structure FnX (P : Program) (w : World) (K : PySem.W.Frag) (mg : Str → Option Value) (base : Heap) (x : Str) (k : Nat) (sp : Sp) : Prop where
  ex : ∃ (f : Addr) (fd : FuncData) (ps : List Str), FnOk P w K mg base (L2N.CX P w) k f fd ps sp ∧ mg x = some (.ref f) ∧ PySem.W.keepIn K (.ref f) = true ∧ Binds K fd ps []
structure FnMX (P : Program) (w : World) (K : PySem.W.Frag) (mg : Str → Option Value) (base : Heap) (C : Addr) (m : Str) (k : Nat) (sp : Sp) : Prop where
  ex : ∃ (f : Addr) (fd : FuncData) (ps : List Str), FnOk P w K mg base (L2N.CX P w) k f fd ps sp ∧ Meth K C m f ∧ Binds K fd ps []
end
section
variable {X : Cx} {C : Addr} {m x : Str} {k : Nat} {sp : Sp} {o e : Expr} {es : List Expr} {σ : L2.St} {H : Hp} {Q : VK} {E : XK} {p p1 p2 apos pos : Pos} {pl : Sem Bool} {rest : List Stmt} {N : Ends}
/-- raise x('..') -/
theorem s_raise {j : Nat} {t : Str} (T : ExcT X.K X.mg x C) (tk : L2N.Takes X (fun cls d _ H => E cls d H)) (h : E (.ref C) none H) (hc : X.calm = true := by rfl) (hg : Gl X x := by rfl) (hdb : (x == ("__debug__" : Str)) = false := by decide) :
    wB X (.Raise (some (.Call (.Name x p) [.Constant (.str t) j p2] [] p1)) none pos :: rest) N σ H :=
  wB_cons (wS_of (L2N.ps_raise hc tk (L2N.pmk_own PySem.F.excBase_ValueError T.q T.m T.k (raises_own T.sb T.ty) hg hdb)) h)
theorem w_callX (F : FnX X.prog X.w X.K X.mg X.base x k sp) (hr : Room k X.A) (tk : L2N.Takes X (fun cls d _ H => E cls d H)) (h : wA X (e :: es) σ H fun vs H1 => sp vs H1 Q E) (hg : Gl X x := by rfl) (hdb : (x == ("__debug__" : Str)) = false := by decide)
    (he : starEach (e :: es) X.env = (false, eval e X.env) :: starEach es X.env := by rfl) (hpl : (backTo pos (starEach es X.env)).any (·.1) = false := by rfl) : wE X (.Call (.Name x p) (e :: es) [] pos) σ H Q := by
  obtain ⟨f, fd, ps, F1, hm, hk, hb⟩ := F.ex
  refine wE_of (pe_call F1 hr hg hm hk hb .nil (L2N.passes_call tk fun _ _ _ _ h => h) paw hdb he hpl) ?_
  show wA X (e :: es) σ H fun vs H1 => sp (vs ++ []) H1 Q E
  simpa using h
theorem w_methX0 (F : FnMX X.prog X.w X.K X.mg X.base C m k sp) (c : Cls X.K C) (hr : Room k X.A) (tk : L2N.Takes X (fun cls d _ H => E cls d H)) (h : wE X o σ H fun x H1 => ∃ a dx fs, x = .ref a ∧ H1 a = some (.ins C dx fs) ∧ fs.lookup m = none ∧ sp [x] H1 Q E)
    (ht : eval (.Call (.Attribute o m apos) [] [] pos) X.env = (do
      let ov ← eval o X.env
      standAt apos.atName
      let (f, first) ← holding [ov] (getMethod ov m pl)
      callWith pos f first (backTo pos (starEach [] X.env)) (backToKw pos (keywordEach [] X.env))) := by rfl) : wE X (.Call (.Attribute o m apos) [] [] pos) σ H Q := by
  obtain ⟨f, fd, ps, F1, hm, hb⟩ := F.ex
  exact wE_of (pe_meth0 (pl := pl) pw c hm F1 hr hb .nil (L2N.passes_call tk fun _ _ _ _ h => h) ht) h
theorem w_methX1 (F : FnMX X.prog X.w X.K X.mg X.base C m k sp) (c : Cls X.K C) (hr : Room k X.A) (tk : L2N.Takes X (fun cls d _ H => E cls d H)) (h : wE X o σ H fun x H1 => ∃ a dx fs, x = .ref a ∧ H1 a = some (.ins C dx fs) ∧ fs.lookup m = none ∧ wE X e σ H1 fun y H2 => sp [x, y] H2 Q E)
    (hst : starEach [e] X.env = (false, eval e X.env) :: starEach [] X.env := by rfl) (hpl : (backTo pos (starEach [] X.env)).any (·.1) = false := by rfl)
    (ht : eval (.Call (.Attribute o m apos) [e] [] pos) X.env = (do
      let ov ← eval o X.env
      standAt apos.atName
      let (f, first) ← holding [ov] (getMethod ov m pl)
      callWith pos f first (backTo pos (starEach [e] X.env)) (backToKw pos (keywordEach [] X.env))) := by rfl) : wE X (.Call (.Attribute o m apos) [e] [] pos) σ H Q := by
  obtain ⟨f, fd, ps, F1, hm, hb⟩ := F.ex
  exact wE_of (pe_meth (pl := pl) pw c hm F1 hr hb .nil (L2N.passes_call tk fun _ _ _ _ h => h) (pa_cons pw pa_nil hst) hst hpl ht) h
theorem takes_lam {A : Around} {outer : List Env} {s : Shared} {Hx : Hp} {scope : Scope} {f c' : Addr} : L2N.Takes (lamCxN X A outer s Hx E scope f c') (fun cls d _ H => E cls d H) := L2N.takes_of rfl rfl rfl rfl
end
section
variable {X : Cx} {H0 : Hp} {ρ : Ro} {e : Expr} {es : List Expr} {d : D} {ds : List D} {σ : L2.St} {G H : Hp}
theorem useE {Q : VK} (en : En X.K G σ ρ) (sg : Same H0 G) (sh : Same G H) (h : Ev X H0 ρ e d) (q : ∀ v G' H', Fr G H G' H' → Rp X.K G' v d → Q v H') : wE X e σ H Q := h σ G H sg sh en Q q
theorem useA {Q : List V → Hp → Prop} (en : En X.K G σ ρ) (sg : Same H0 G) (sh : Same G H) (h : EvA X H0 ρ es ds) (q : ∀ v G' H', Fr G H G' H' → RpL X.K G' v ds → Q v H') : wA X es σ H Q := h σ G H sg sh en Q q
theorem useT {Q : Bool → Hp → Prop} {b : Bool} (en : En X.K G σ ρ) (sg : Same H0 G) (sh : Same G H) (h : EvT X H0 ρ e b) (q : ∀ G' H', Fr G H G' H' → Q b H') : wT X e σ H Q := h σ G H sg sh en Q q
theorem useL {Q : VK} (en : En X.K G σ ρ) (sg : Same H0 G) (sh : Same G H) (h : EvL X H0 ρ e ds) (q : ∀ l vs G' H', Fr G H G' H' → H l = none → G' l = none → H' l = some (.lst vs) → RpL X.K G' vs ds → Q (.ref l) H') : wE X e σ H Q := h σ G H sg sh en Q q
end
theorem wT_mono {X : Cx} {e : Expr} {σ : L2.St} {H : Hp} {Q Q' : Bool → Hp → Prop} (h : wT X e σ H Q) (m : ∀ k H', Q k H' → Q' k H') : wT X e σ H Q' := fun pins s I => wpAny_mono (h pins s I) (fun c s1 ⟨H1, I1, q1⟩ => ⟨H1, I1, m c H1 q1⟩) fun _ _ x => x
theorem s_ifW {X : Cx} {c : Expr} {σ : L2.St} {H : Hp} {sa sb rest : List Stmt} {N : Ends} {pos : Pos} (Pt Pf : Hp → Prop) (h : wT X c σ H fun k H' => (k = true → Pt H') ∧ (k = false → Pf H')) (kt : ∀ H', Pt H' → wB X sa { N with nx := wB X rest N } σ H') (kf : ∀ H', Pf H' → wB X sb { N with nx := wB X rest N } σ H') :
    wB X (.If c sa sb pos :: rest) N σ H :=
  wB_cons (wS_of (ps_if ptw pbw pbw) (wT_mono h fun k H' q => by
    cases k with
    | true => exact kt H' (q.1 rfl)
    | false => exact kf H' (q.2 rfl)))
end G9

/-! Layer E: enumerate(tuple), min of data, two targets. -/
namespace PySem
open Sem (wp)
open AutoSeq1 (wpAny_loadPart')
theorem g9_enum_new (l : Addr) (items : Array Value) (n : Nat) (dct : Option Addr) (sl : Array (Option Value)) :
    Meets (Builtin.«enumerate.__new__» ⟨[.type "enumerate", .ref l], []⟩) (fun _ R s => s.heap.get? l = some { cls := .type "tuple", dict := dct, data := .seq items n, slots := sl } ∧
      R (.ok (.ret (.ref (s.heap.push { cls := .type "tuple_iterator", data := .fields #[.ref l, .int 0 0] }).objs.size)))
        { s with heap := (s.heap.push { cls := .type "tuple_iterator", data := .fields #[.ref l, .int 0 0] }).push { cls := .type "enumerate", data := .fields #[.none, .bool false, .ref s.heap.objs.size, rawInt 0, .none, .none] } }) :=
  .of_wp fun prog w A R s h => by
    obtain ⟨hp, g, d, tk, os⟩ := s; obtain ⟨hl, h⟩ := h
    have hsub := sub_enumerate
    have hL : Heap.IsTuple (Shared.heap ⟨hp, g, d, tk, os⟩) l items := ⟨_, hl, rfl, n, rfl⟩
    wp_walk using wpAny_loadPart' hl
    refine wpAny_stack_any fun st => wpAny_pure ?_
    split
    · rename_i c _ _ _ _ _
      cases (c == Value.type "enumerate")
      · wp_walk using wpAny_loadPart' hl, wpAny_pyIter_tuple hL
        exact ⟨_, rfl, h⟩
      · wp_walk using wpAny_loadPart' hl, wpAny_pyIter_tuple hL
        exact ⟨_, rfl, h⟩
    · wp_walk using wpAny_loadPart' hl, wpAny_pyIter_tuple hL
      exact ⟨_, rfl, h⟩
section
variable {prog : Program} {w : World} {A : Around} {E : Value → Shared → Prop} {s : Shared}
theorem g9_enum_tuple {l : Addr} {items : Array Value} {Q : Value → Shared → Prop} (hL : s.heap.IsTuple l items)
    (h : ∀ h', IsEnum h' (s.heap.objs.size + 1) s.heap.objs.size 0 .none → h'.IsTupleIter s.heap.objs.size l 0 → h'.objs.size = s.heap.objs.size + 2 →
      (∀ b o, s.heap.get? b = some o → h'.get? b = some o) → Q (.ref (s.heap.objs.size + 1)) { s with heap := h' }) :
    wpAny (model prog w) A (call (.type "enumerate") [.ref l]) Q E s := by
  obtain ⟨⟨c, dct, dt, sl⟩, hl, hc, n, hd⟩ := hL
  replace hc : c = .type "tuple" := hc
  replace hd : dt = .seq items n := hd
  subst hc hd
  refine callType_new F.called_enumerate (by decide) (F.typeCall_enumerate_1 _) (F.newCall_enumerate_1 _) (fun obj => F.args_object_init_2 obj _) F.entry_enumerate_new
    (g9_enum_new l items n dct sl) ⟨hl, ?_⟩
  have hz : (s.heap.push { cls := .type "tuple_iterator", data := .fields #[.ref l, .int 0 0] }).objs.size = s.heap.objs.size + 1 := Heap.size_push ..
  show _ ∧ _
  rw [hz]
  have he : IsEnum ((s.heap.push { cls := .type "tuple_iterator", data := .fields #[.ref l, .int 0 0] }).push
      { cls := .type "enumerate", data := .fields #[.none, .bool false, .ref s.heap.objs.size, rawInt 0, .none, .none] }) (s.heap.objs.size + 1) s.heap.objs.size 0 .none := by
    have := Heap.get?_push_size (s.heap.push { cls := .type "tuple_iterator", data := .fields #[.ref l, .int 0 0] })
      (o := { cls := .type "enumerate", data := .fields #[.none, .bool false, .ref s.heap.objs.size, rawInt 0, .none, .none] }) rfl
    rw [hz] at this; exact this
  refine ⟨⟨_, he, rfl⟩, h _ he ⟨_, Heap.get?_push_of_some _ (Heap.get?_push_size _ rfl), rfl, rfl⟩ (by rw [Heap.size_push, hz]) fun b o x => Heap.get?_push_of_some _ (Heap.get?_push_of_some _ x)⟩
end
end PySem
namespace G9
open PySem PySem.Spec PyProof.Rows L2 G9S
def IteT (K : PySem.W.Frag) (a : Addr) : It :=
  ⟨fun i H => ∃ (xs : List V) (x : V), SqT K H a xs ∧ xs[i]? = some x, fun i H v H' => ∃ T x, v = .ref T ∧ H T = none ∧ H' = upd H T (.tup [.int (i : Nat), x]) ∧ ∀ xs, SqT K H a xs → xs[i]? = some x, fun i H => ∃ xs : List V, SqT K H a xs ∧ xs.length ≤ i⟩
theorem turn_enumT {P : Program} {w : World} {K : PySem.W.Frag} {elts : List Expr} {kk : Nat} {tpos : Pos} (a e it : Addr) :
    Turn P w K (.Tuple elts kk tpos) (IteT K a) [e, it] e (fun i h => (∃ old, IsEnum h e it ((i : Nat) : Int) old) ∧ h.IsTupleIter it a i ∧ e ≠ it ∧ a ≠ it) where
  mem := by simp
  obj := fun i h st b hb => by
    obtain ⟨⟨old, he⟩, ⟨o, ho, hc, hd⟩, _⟩ := st
    have e' : b = e ∨ b = it := by simpa using hb
    rcases e' with z | z
    · rw [z]; exact ⟨_, he, fun v q => nomatch q⟩
    · rw [z]; exact ⟨o, ho, fun v q => by rw [hd] at q; cases q⟩
  keep := fun i h h' st k => let ⟨⟨old, he⟩, hi, hne⟩ := st; ⟨⟨old, k e (by simp) _ he⟩, hi.at fun o q => k it (by simp) o q, hne⟩
  item := by
    intro X hP hw hK hc i pins s σ H E I hf st hg
    subst hP hw hK
    obtain ⟨⟨old, he⟩, hit, hne, hai⟩ := st
    obtain ⟨xs, x, hq, hx⟩ := hg
    obtain ⟨its, rv, p, hz⟩ := I.tuple hq
    obtain ⟨u, hu, ru⟩ := rv.get hx
    have hel : e < s.heap.objs.size := Heap.lt_size he
    have hil : it < s.heap.objs.size := by obtain ⟨_, q, _⟩ := hit; exact Heap.lt_size q
    have hi : i < its.toArray.size := by
      have := (List.getElem?_eq_some_iff.mp hu).1
      simpa using this
    have hea : e ≠ a := fun z => by
      obtain ⟨o, ho, hc', _⟩ := id p
      rw [← z, he] at ho
      cases ho
      have q : Value.type "enumerate" = .type "tuple" := hc'
      simp at q
    refine wpAny_pyNext_enum_itemD (Draws.tuple (A := X.A.in1) (I.ok.hd hc) it a hai its.toArray) he ⟨hit, p⟩ hi hne (by simp; exact ⟨hne, hea⟩) fun x' h' tk hP ho hit' hT hsz hk => ?_
    obtain rfl : x' = u := by
      have hu' : its.toArray[i]? = some u := by simpa using hu
      rw [hu'] at hP
      exact (Option.some.inj hP).symm
    refine ⟨_, rfl, wpAny_letOwnedTupleGo_enum (s := { s with heap := h', toks := tk + 1 }) ho fun h'' he' sb => ?_⟩
    have hT2 : h''.get? s.heap.objs.size = some { cls := .type "tuple", data := .seq #[.int i tk, x'] } := (sb.2 _ (Nat.ne_of_gt hel)).trans hT
    have new : ObjOk X.prog X.w (upd H s.heap.objs.size (.tup [.int (i : Nat), x])) h'' s.heap.objs.size (.tup [.int (i : Nat), x]) :=
      ⟨by show 2 ≤ sizeLine; decide, [.int i tk, x'], .cons ⟨_, rfl⟩ (.cons ru .nil), ⟨_, hT2, rfl, _, rfl⟩⟩
    have I1 : Inv X pins σ (upd H s.heap.objs.size (.tup [.int (i : Nat), x])) { s with heap := h'', toks := tk + 1 } :=
      I.turnedNew (ch := [e, it]) (fun b ob hb q => (sb.2 b (fun z => hb (by simp [z]))).trans (hk b ob (fun z => hb (by simp [z])) (fun z => hb (by simp [z])) q)) hf (Nat.le_refl _) new
    refine ⟨.ref s.heap.objs.size, _, I1, rfl, ⟨_, x, rfl, I.hok.fresh (Nat.le_refl _), rfl, fun ys hy => by rw [I.tuple_inj hy hq]; exact hx⟩, ⟨⟨x', ?_⟩, hit'.1.at fun o q => (sb.2 it (Ne.symm hne)).trans q, hne, hai⟩, fun b hb => ?_⟩
    · have e1 : ((i + 1 : Nat) : Int) = (i : Int) + 1 := by omega
      rw [e1]; exact he'
    · have hb' : b < s.heap.objs.size := by
        have e' : b = e ∨ b = it := by simpa using hb
        rcases e' with z | z
        · rw [z]; exact hel
        · rw [z]; exact hil
      rw [upd_ne (Nat.ne_of_lt hb')]
      exact (hf b hb).1
  done := by
    intro X hP hw hK hc i pins s σ H E I hf st hg
    subst hP hw hK
    obtain ⟨⟨old, he⟩, hit, hne, hai⟩ := st
    obtain ⟨xs, hq, hx⟩ := hg
    obtain ⟨its, rv, p, hz⟩ := I.tuple hq
    obtain ⟨f0, f1, f2, f3, f4, f5⟩ := hf it (by simp)
    have hl := rv.length
    have hT : s.TypeIs (.ref e) "enumerate" := ⟨_, he, rfl⟩
    unfold pyNext
    refine wpAny_bind (wpAny_attempt (wpAny_callSpecial?_slot (name := Str.ofString "__next__") hT F.slot_enumerate_next
      (wpAny_call_entry F.slot_enumerate_next hT F.entry_enumerate_next ?_ (F.args_enumerate_next_1 _))))
    show wpAny _ _ (field (.ref e) 2 >>= _) _ _ _
    refine wpAny_bind (wpAny_field he rfl (x := .ref it) rfl ?_)
    refine wpAny_bind (wpAny_nextOf_tuple_end (I.ok.hd hc) hit p (by simp; omega) fun h' x he' hx' => ?_)
    obtain ⟨o, ho, hc2⟩ := hx'
    refine wpAny_bind (wpAny_isInstance (T := "StopIteration") (b := true) ⟨o, ho, hc2⟩ isSubtype_stop ?_)
    exact wpAny_pure ⟨rfl, I.turned (t' := s.toks) (fun b o hb q => he' b o hb q) f0 f1 f3 f4 f5⟩
  self := fun A i s Q E st h => let ⟨⟨_, he⟩, _⟩ := st; wpAny_pyIter_enum he h
def iEnumT (K : PySem.W.Frag) (ta : TA) : TI := fun σ H R => ta σ H fun vs H1 => ∃ a xs, vs = [.ref a] ∧ SqT K H1 a xs ∧ R (IteT K a) H1
theorem pi_enumT {X : Cx} {e : Expr} {ta : TA} {p pos tpos : Pos} {elts : List Expr} {kk : Nat} (hg : Gl X "enumerate") (hm : X.mg "enumerate" = none) (ha : PA X [e] ta) (hs : starEach [e] X.env = [(false, eval e X.env)] := by rfl) :
    PI X (.Tuple elts kk tpos) (.Call (.Name "enumerate" p) [e] [] pos) (iEnumT X.K ta) := by
  refine ⟨fun pins s σ H R I h => ?_⟩
  refine Call_ (ld_blt I hg hm boot_enumerate (PyProof.Rows.callWith_type1 (thn (ha.run pos pins s σ H _ I h) fun us s1 ⟨vs, H1, I1, r1, q1⟩ => ?_) hs rfl))
  obtain ⟨a, xs, ex, hq, q⟩ := q1
  subst ex
  cases r1 with
  | cons r rr =>
    cases rr
    cases r
    obtain ⟨its, rv, p', hz⟩ := I1.tuple hq
    refine g9_enum_tuple p' fun h' he hit hsz hk => wpAny_pyIter_enum he ?_
    have I2 : Inv X pins σ H1 { s1 with heap := h' } := I1.kept (t' := s1.toks) hk
    have hal : a < s1.heap.objs.size := by obtain ⟨o, ho, _⟩ := id p'; exact Heap.lt_size ho
    refine ⟨s1.heap.objs.size + 1, [s1.heap.objs.size + 1, s1.heap.objs.size], _, _, H1, rfl, I2, turn_enumT a (s1.heap.objs.size + 1) s1.heap.objs.size, ⟨⟨.none, he⟩, hit, Nat.succ_ne_self _, Nat.ne_of_lt hal⟩, fun b hb => ?_, q⟩
    have e' : b = s1.heap.objs.size + 1 ∨ b = s1.heap.objs.size := by simpa using hb
    have hle : s1.heap.objs.size ≤ b := by
      rcases e' with z | z
      · rw [z]; exact Nat.le_add_right _ _
      · rw [z]; exact Nat.le_refl _
    exact I1.fpOk hle (I1.hok.fresh hle)
end G9

/-! Layer F: loops and comprehensions with targets of several names. -/
namespace G9
open PySem PySem.Spec PyProof.Rows L2 G9S
/-- what a target does with a datum -/
structure TgtOk (K : PySem.W.Frag) (g : TG) (slots : List Nat) (b : D → Ro → Ro) (ok : D → Prop) : Prop where
  run : ∀ (x : V) (d : D) (σ : L2.St) (ρ : Ro) (G H : Hp) (Q : L2.St → Hp → Prop), ok d → Rp K G x d → Same G H → En K G σ ρ → (∀ σ2, En K G σ2 (b d ρ) → wipe σ2 slots = wipe σ slots → Q σ2 H) → g x σ H Q
theorem set_none_comm (σ : L2.St) (i j : Nat) (v : Option V) : (σ.set i v).set j none = if i = j then σ.set j none else (σ.set j none).set i v := by
  split
  · rename_i h
    subst h
    rw [List.set_set]
  · rename_i h
    rw [List.set_comm _ _ h]
abbrev bName (j : Nat) : D → Ro → Ro := fun d ρ => ρ.set j (some d)
def snd2 : D → D × D
  | .tup [a, b] => (a, b)
  | d => (d, d)
abbrev bPair (i j : Nat) : D → Ro → Ro := fun d ρ => (ρ.set i (some (snd2 d).1)).set j (some (snd2 d).2)
def IsPair (d : D) : Prop := ∃ a b, d = .tup [a, b]
theorem tgt_pair {K : PySem.W.Frag} (i j : Nat) (hij : i ≠ j) : TgtOk K (gTup K 2 (gCons (gName i) (gCons (gName j) gNil))) [i, j] (bPair i j) IsPair := by
  refine ⟨fun x d σ ρ G H Q hd r sh en q => ?_⟩
  obtain ⟨a, b, rfl⟩ := hd
  obtain ⟨p, xs, rfl, hs, rl⟩ := r.tup_of
  cases rl with
  | cons ra rl =>
    cases rl with
    | cons rb rl =>
      cases rl
      refine ⟨p, _, rfl, Same.sqT sh hs, rfl, _, _, rfl, _, _, rfl, rfl, q _ ((en.set i ra).set j rb) ?_⟩
      show (((σ.set i (some _)).set j (some _)).set j none).set i none = (σ.set j none).set i none
      rw [List.set_set, set_none_comm σ i j, if_neg hij, List.set_set]
theorem tgt_name {K : PySem.W.Frag} (j : Nat) : TgtOk K (gName j) [j] (bName j) (fun _ => True) := ⟨fun x d σ ρ G H Q _ r sh en q => q _ (en.set j r) (by
  show (σ.set j (some x)).set j none = σ.set j none
  rw [List.set_set])⟩
/-- a source for targets of several names -/
def EvI2 (X : Cx) (H0 : Hp) (ρ : Ro) (iter : Expr) (ds : List D) : Prop := ∃ wi : TI, (∀ elts kk tpos, PI X (.Tuple elts kk tpos) iter wi) ∧ SrcW X H0 ρ wi ds
theorem EvI.two {X : Cx} {H0 : Hp} {ρ : Ro} {iter : Expr} {ds : List D} (h : EvI X H0 ρ iter ds) : EvI2 X H0 ρ iter ds := let ⟨wi, h1, h2⟩ := h; ⟨wi, fun _ _ _ => h1 _, h2⟩
theorem EvI2.is {X : Cx} {H0 : Hp} {ρ : Ro} {iter : Expr} {ds ds' : List D} (h : EvI2 X H0 ρ iter ds) (e : ds = ds') : EvI2 X H0 ρ iter ds' := e ▸ h
def enumD (ds : List D) : List D := (List.range ds.length).map fun (i : Nat) => .tup [.int (i : Int), ds.getD i .non]
theorem enumD_at {ds : List D} {i : Nat} {d : D} (h : (enumD ds)[i]? = some d) : ∃ e, ds[i]? = some e ∧ d = .tup [.int (i : Int), e] := by
  unfold enumD at h
  rw [List.getElem?_map] at h
  by_cases hi : i < ds.length
  · rw [List.getElem?_range hi] at h
    cases h
    refine ⟨ds[i], List.getElem?_eq_getElem hi, ?_⟩
    show D.tup [D.int _, ds.getD i D.non] = _
    rw [List.getD_eq_getElem?_getD, List.getElem?_eq_getElem hi]
    rfl
  · rw [List.getElem?_eq_none (by rw [List.length_range]; omega)] at h
    cases h
theorem enumD_len (ds : List D) : (enumD ds).length = ds.length := by unfold enumD; rw [List.length_map, List.length_range]
section
variable {X : Cx} {H0 : Hp} {ρ : Ro} {e : Expr} {ds : List D} {p pos : Pos}
theorem i_enumT (hm : X.mg "enumerate" = none) (h : Ev X H0 ρ e (.tup ds)) (hg : Gl X "enumerate" := by rfl) (hs : starEach [e] X.env = [(false, eval e X.env)] := by rfl) (hs2 : starEach [e] X.env = (false, eval e X.env) :: starEach [] X.env := by rfl) : EvI2 X H0 ρ (.Call (.Name "enumerate" p) [e] [] pos) (enumD ds) := by
  refine ⟨iEnumT X.K (wA X [e]), fun _ _ _ => pi_enumT hg hm paw hs, fun σ G H sg sh en R q => a_cons h a_nil hs2 σ G H sg sh en _ fun vs G1 H1 f1 r1 => ?_⟩
  cases r1 with
  | cons r1 r2 =>
    cases r2
    obtain ⟨a, xs, rfl, hs, r⟩ := r1.tup_of
    refine ⟨a, xs, rfl, Same.sqT f1.s hs, q _ G1 H1 f1 fun i G2 H2 s12 s2 => ⟨fun hl => ⟨xs, Same.sqT (s12.trans s2) hs, by rw [r.length]; rw [enumD_len] at hl; exact hl⟩, fun d hd => ?_⟩⟩
    obtain ⟨e1, he1, rfl⟩ := enumD_at hd
    obtain ⟨v2, hv, rv⟩ := r.get he1
    refine ⟨⟨xs, v2, Same.sqT (s12.trans s2) hs, hv⟩, fun x H3 y => ?_⟩
    obtain ⟨T, x', rfl, hT, rfl, hx'⟩ := y
    have := hx' xs (Same.sqT (s12.trans s2) hs)
    rw [hv] at this
    cases this
    exact ⟨_, Fr.new s2 hT, .tup (.inl (.inl upd_same)) (.cons (.int _) (.cons (rv.up (s12.trans (Same.new (s2.free hT)))) .nil))⟩
theorem i_enumL (hm : X.mg "enumerate" = none) (h : Ev X H0 ρ e (.lst ds)) (hg : Gl X "enumerate" := by rfl) (hs : starEach [e] X.env = [(false, eval e X.env)] := by rfl) (hs2 : starEach [e] X.env = (false, eval e X.env) :: starEach [] X.env := by rfl) : EvI2 X H0 ρ (.Call (.Name "enumerate" p) [e] [] pos) (enumD ds) := by
  refine ⟨iEnum X.K (wA X [e]), fun _ _ _ => pi_enum hg hm paw hs, fun σ G H sg sh en R q => a_cons h a_nil hs2 σ G H sg sh en _ fun vs G1 H1 f1 r1 => ?_⟩
  cases r1 with
  | cons r1 r2 =>
    cases r2
    obtain ⟨a, xs, rfl, hs, r⟩ := r1.lst_of
    refine ⟨a, xs, rfl, SqL.of (f1.s _ _ hs), q _ G1 H1 f1 fun i G2 H2 s12 s2 => ⟨fun hl => ⟨xs, SqL.of ((s12.trans s2) _ _ hs), by rw [r.length]; rw [enumD_len] at hl; exact hl⟩, fun d hd => ?_⟩⟩
    obtain ⟨e1, he1, rfl⟩ := enumD_at hd
    obtain ⟨v2, hv, rv⟩ := r.get he1
    refine ⟨⟨xs, v2, SqL.of ((s12.trans s2) _ _ hs), hv⟩, fun x H3 y => ?_⟩
    obtain ⟨T, x', rfl, hT, rfl, hx'⟩ := y
    have := hx' xs (SqL.of ((s12.trans s2) _ _ hs))
    rw [hv] at this
    cases this
    exact ⟨_, Fr.new s2 hT, .tup (.inl (.inl upd_same)) (.cons (.int _) (.cons (rv.up (s12.trans (Same.new (s2.free hT)))) .nil))⟩
end
/-! ### comprehensions -/
section
variable {X : Cx} {H0 : Hp} {ρ : Ro} {elt iter : Expr} {ifs : List Expr} {pos pn : Pos} {t : Str} {scope : Scope} {α : Type}
def CmpG (X : Cx) (H0 : Hp) (ρ : Ro) (wi : TI) (g : TG) (slots : List Nat) (elt : Expr) (ifs : List Expr) (scope : Scope) (ds : List D) : Prop := ∀ (σ : L2.St) (G H : Hp), Same H0 G → Same G H → En X.K G σ ρ →
  ∀ Q : VK, (∀ l vs G' H', Fr G H G' H' → H l = none → G' l = none → H' l = some (.lst vs) → RpL X.K G' vs ds → Q (.ref l) H') → tLc wi g (bT X scope ifs) (bE X scope elt) slots σ H Q
theorem c_coreG {wi : TI} {g : TG} {slots : List Nat} {b : D → Ro → Ro} {okD : D → Prop} (tg : TgtOk X.K g slots b okD) (enc : α → D) (xs : List α) (f : α → Bool) (gg : α → D) (hok : ∀ x ∈ xs, okD (enc x)) (hw : SrcW X H0 ρ wi (xs.map enc)) (hz : xs.length ≤ 100000)
    (ht : ∀ x ∈ xs, ∀ (s : Shared) (H : Hp) (C : Addr) (cl : List (Str × Addr)) (fp : List Addr), EvTs (X.blk s H scope (compEnvC scope cl C X.env) fp) H0 (b (enc x) (wipeD ρ slots)) ifs (f x))
    (he : ∀ x ∈ xs, f x = true → ∀ (s : Shared) (H : Hp) (C : Addr) (cl : List (Str × Addr)) (fp : List Addr), Ev (X.blk s H scope (compEnvC scope cl C X.env) fp) H0 (b (enc x) (wipeD ρ slots)) elt (gg x)) :
    CmpG X H0 ρ wi g slots elt ifs scope ((xs.filter f).map gg) := by
  intro σ G H sg sh en Q q
  refine hw σ G H sg sh en _ fun J G1 H1 f1 hJ Dl hD => ?_
  refine ⟨fun i m H' => m = xs.length - i ∧ i ≤ xs.length ∧ Cw X.K G1 H1 f gg xs Dl i H', ⟨xs.length, by simp, Nat.zero_le _, hD, G1, [], Fr.newH f1.s hD, f1.s.free hD, upd_same, .nil⟩, ?_⟩
  rintro i m H' ⟨rfl, hi, p⟩
  obtain ⟨_, G2, vs, f2, g2, h2, r2⟩ := id p.ex
  obtain ⟨k1, k2⟩ := hJ i G2 H' f2.g f2.s
  by_cases hlt : i < xs.length
  · have hx : xs[i]? = some xs[i] := List.getElem?_eq_getElem hlt
    have hmem : xs[i] ∈ xs := List.getElem_mem hlt
    obtain ⟨go, yl⟩ := k2 (enc xs[i]) (by rw [List.getElem?_map, hx]; rfl)
    refine .inr ⟨go, fun H'' => Cw X.K G1 H1 f gg xs Dl (i + 1) H'', fun H'' p' => ⟨xs.length - (i + 1), by omega, rfl, hlt, p'⟩, fun x H3 y => ?_⟩
    obtain ⟨G3, f3, rx⟩ := yl x H3 y
    have sg3 := sg.trans ((f1.g.trans f2.g).trans f3.g)
    have enw : En X.K G3 (wipe σ slots) (wipeD ρ slots) := (en.up ((f1.g.trans f2.g).trans f3.g)).wipe slots
    refine tg.run x _ _ _ G3 H3 _ (hok _ hmem) rx f3.s enw fun σ2 en2 hw2 => ⟨hw2.trans ?_, ?_⟩
    · have ww : ∀ (σ : L2.St) (l : List Nat), wipe (wipe σ l) l = wipe σ l := by
        intro σ l
        have key : ∀ (l m : List Nat) (σ : L2.St), (∀ x ∈ m, x ∈ l) → wipe (wipe σ l) m = wipe σ l := by
          intro l m
          induction m with
          | nil => intro σ _; rfl
          | cons a m ih =>
            intro σ h
            show (wipe (wipe σ l) m).set a none = wipe σ l
            rw [ih σ fun x hx => h x (List.mem_cons_of_mem _ hx)]
            have : ∀ (l : List Nat) (σ : L2.St), a ∈ l → (wipe σ l).set a none = wipe σ l := by
              intro l
              induction l with
              | nil => intro σ h; cases h
              | cons c l ih2 =>
                intro σ h
                show ((wipe σ l).set c none).set a none = (wipe σ l).set c none
                by_cases hc : a = c
                · rw [hc, List.set_set]
                · rw [List.set_comm _ _ (fun z => hc z.symm), ih2 σ ((List.mem_cons.mp h).resolve_left hc)]
            exact this l σ (h a List.mem_cons_self)
        exact key l l σ fun _ h => h
      exact ww σ slots
    · obtain ⟨g3, h3⟩ := f3.out g2 h2
      exact cw_turn (tt := bT X scope ifs) (te := bE X scope elt) (σ2 := σ2) hx hz hD (f2.trans f3) g3 h3 (r2.up f3.g) (fun Gg Hh s1 s2 Q qq s H C cl fp => ht _ hmem s H C cl fp _ Gg Hh (sg3.trans s1) s2 (en2.up s1) Q qq)
        (fun hf Gg Hh s1 s2 Q qq s H C cl fp => he _ hmem hf s H C cl fp _ Gg Hh (sg3.trans s1) s2 (en2.up s1) Q qq)
  · have e : i = xs.length := by omega
    subst e
    refine .inl ⟨k1 (by rw [List.length_map]; exact Nat.le_refl _), q Dl vs G2 H' (f1.trans f2) (f1.h.free hD) g2 h2 ?_⟩
    rw [← made_all]
    exact r2
/-- [elt for x, y in iter if ..] -/
theorem l_lc2 {x y : Str} {px py pt : Pos} {kt : Nat} (i j : Nat) (enc : α → D × D) (xs : List α) (f : α → Bool) (gg : α → D) (src : EvI2 X H0 ρ iter (xs.map fun x => .tup [(enc x).1, (enc x).2])) (hz : xs.length ≤ 100000)
    (ht : ∀ x ∈ xs, ∀ (s : Shared) (H : Hp) (C : Addr) (cl : List (Str × Addr)) (fp : List Addr), EvTs (X.blk s H scope (compEnvC scope cl C X.env) fp) H0 (((wipeD ρ [i, j]).set i (some (enc x).1)).set j (some (enc x).2)) ifs (f x))
    (he : ∀ x ∈ xs, f x = true → ∀ (s : Shared) (H : Hp) (C : Addr) (cl : List (Str × Addr)) (fp : List Addr), Ev (X.blk s H scope (compEnvC scope cl C X.env) fp) H0 (((wipeD ρ [i, j]).set i (some (enc x).1)).set j (some (enc x).2)) elt (gg x))
    (hij : i ≠ j := by decide) (hN : X.N.Nodup := by assumption)
    (hg : ∀ (s : Shared) (H : Hp) (C : Addr) (cl : List (Str × Addr)) (fp : List Addr), PG (X.blk s H scope (compEnvC scope cl C X.env) fp) (.Tuple [.Name x px, .Name y py] kt pt) (gTup X.K 2 (gCons (gName i) (gCons (gName j) gNil))) := by exact fun _ _ _ _ _ => pg_tup rfl (pgs_cons (pg_name (by assumption) rfl (by first | exact Or.inl rfl | exact Or.inr rfl)) (pgs_cons (pg_name (by assumption) rfl (by first | exact Or.inl rfl | exact Or.inr rfl)) pgs_nil)))
    (ok : BlkOk X.N X.env.scope scope [(x, i), (y, j)] := by exact blkOk_by (by first | kernel_rfl | rfl)) (hc : X.calm = true := by rfl) (hs : ∀ x, foldedSetIterable iter X.env x = pure x := by intro _; rfl) :
    EvL X H0 ρ (.ListComp elt [⟨.Tuple [.Name x px, .Name y py] kt pt, iter, ifs, 0⟩] scope pos) ((xs.filter f).map gg) := by
  obtain ⟨wi, hpi, hw⟩ := src
  intro σ G H sg sh en Q q
  exact wE_of (pe_lc (tt := bT X scope ifs) (te := bE X scope elt) (own := [(x, i), (y, j)]) hc hN (hpi _ _ _) ok hg (fun s H C cl fp => ⟨fun pins s1 σ1 H1 Q1 I h => h s H C cl fp pins s1 I⟩) (fun s H C cl fp => ⟨fun pins s1 σ1 H1 Q1 I h => h s H C cl fp pins s1 I⟩) hs)
    (c_coreG (tgt_pair i j hij) (fun x => .tup [(enc x).1, (enc x).2]) xs f gg (fun x _ => ⟨_, _, rfl⟩) hw hz ht he σ G H sg sh en Q q)
end
end G9

/-! Layer G: ranges as lists and tuples, min, max, index, while, repeated tuples. -/
namespace G9
open PySem PySem.Spec PyProof.Rows L2 G9S
abbrev iotaI (n : Nat) : List Int := (List.range n).map fun (i : Nat) => (i : Int)
section
variable {X : Cx} {H0 : Hp} {ρ : Ro} {e a b c o : Expr} {es : List Expr} {d : D} {ds : List D} {p p1 p2 pa pos : Pos} {n : Int} {σ : L2.St} {G H : Hp} {rest body : List Stmt} {N : Ends}
theorem rgV_eq (n : Int) : rgV 0 n = (iotaI n.toNat).map V.int := by
  unfold rgV iotaI
  rw [List.map_map, show n - 0 = n by omega]
  refine List.map_congr_left fun i _ => ?_
  show V.int (0 + (i : Int)) = V.int (i : Int)
  rw [Int.zero_add]
theorem l_listRg (B : Blt X.mg) (h : Ev X H0 ρ a (.int n)) (hn : 0 ≤ n ∧ n ≤ 1000) (hc : X.calm = true := by rfl) (hg : Gl X "list" := by rfl) (hg2 : Gl X "range" := by rfl) (na : starEach [a] X.env = (false, eval a X.env) :: starEach [] X.env := by rfl) (nb : starEach [.Call (.Name "range" p1) [a] [] p2] X.env = (false, eval (.Call (.Name "range" p1) [a] [] p2) X.env) :: starEach [] X.env := by rfl) :
    EvL X H0 ρ (.Call (.Name "list" p) [.Call (.Name "range" p1) [a] [] p2] [] pos) ((iotaI n.toNat).map D.int) := fun σ G H sg sh en Q q =>
  wE_of (pe_listRg hc hg B.list_ (prg_1 hg2 B.range_ pw na) nb) (h σ G H sg sh en _ fun v G1 H1 f1 r1 => ⟨n, r1.int_of, RgOk.of_le (by omega) (by omega) (by omega) (by omega), fun l hl => by
    rw [rgV_eq]
    exact q l _ G1 _ (f1.trans (Fr.newH f1.s hl)) (f1.h.free hl) (f1.s.free hl) upd_same (RpL.ints _)⟩)
theorem e_tupRg (B : Blt X.mg) (h : Ev X H0 ρ a (.int n)) (hn : 0 ≤ n ∧ n ≤ 1000) (hc : X.calm = true := by rfl) (hg : Gl X "tuple" := by rfl) (hg2 : Gl X "range" := by rfl) (na : starEach [a] X.env = (false, eval a X.env) :: starEach [] X.env := by rfl) (nb : starEach [.Call (.Name "range" p1) [a] [] p2] X.env = (false, eval (.Call (.Name "range" p1) [a] [] p2) X.env) :: starEach [] X.env := by rfl) :
    Ev X H0 ρ (.Call (.Name "tuple" p) [.Call (.Name "range" p1) [a] [] p2] [] pos) (dS (iotaI n.toNat)) := fun σ G H sg sh en Q q =>
  wE_of (pe_tupRg hc hg B.tuple_ (prg_1 hg2 B.range_ pw na) nb) (h σ G H sg sh en _ fun v G1 H1 f1 r1 => ⟨n, r1.int_of, RgOk.of_le (by omega) (by omega) (by omega) (by omega), fun l hl => by
    rw [rgV_eq]
    exact q _ _ _ (f1.trans (Fr.new f1.s hl)) (.tup (.inl (.inl upd_same)) (RpL.ints _))⟩)
/-- (x,) * n -/
theorem rd_repT {K : PySem.W.Frag} {d : D} {k : Int} (hk : 2 ≤ k ∧ k ≤ 1000) : Rd2 K H0 (rRepT K) (.tup [d]) (.int k) (.tup (List.replicate k.toNat d)) := fun x y G H _ s rx ry Q q => by
  cases ry.int_of
  obtain ⟨a, xs, rfl, hs, r⟩ := rx.tup_of
  cases r with
  | cons r1 r =>
    cases r
    rename_i v
    refine ⟨a, k, [v], rfl, rfl, Same.sqT s hs, by simp, hk.1, hk.2, by simp, fun p hp => ?_⟩
    have e : (List.replicate k.toNat [v]).flatten = List.replicate k.toNat v := by
      rw [List.flatten_replicate_singleton]
    rw [e]
    refine q _ _ _ (Fr.new s hp) (.tup (.inl (.inl upd_same)) ?_)
    have : ∀ (m : Nat) (G : Hp), Rp K G v d → RpL K G (List.replicate m v) (List.replicate m d) := by
      intro m
      induction m with
      | zero => intro G _; exact .nil
      | succ m ih => intro G h; exact .cons h (ih G h)
    exact this _ _ (r1.up (Same.new (s.free hp)))
theorem rd_rep {K : PySem.W.Frag} {d : D} {k : Int} (hk : 0 ≤ k ∧ k ≤ 1000) : Rd2L K H0 rRep (.lst [d]) (.int k) (List.replicate k.toNat d) := fun x y G H _ s rx ry Q q => by
  cases ry.int_of
  obtain ⟨a, xs, rfl, hs, r⟩ := rx.lst_of
  cases r with
  | cons r1 r =>
    cases r
    rename_i v
    refine ⟨a, k, [v], rfl, rfl, s _ _ hs, by omega, by omega, by
      have : (1000 : Nat) ≤ sizeLine := by decide
      simp
      omega, fun p hp => ?_⟩
    have e : (List.replicate k.toNat [v]).flatten = List.replicate k.toNat v := by
      rw [List.flatten_replicate_singleton]
    rw [e]
    refine q p _ _ _ (Fr.newH s hp) hp (s.free hp) upd_same ?_
    have : ∀ (m : Nat) (G : Hp), Rp K G v d → RpL K G (List.replicate m v) (List.replicate m d) := by
      intro m
      induction m with
      | zero => intro G _; exact .nil
      | succ m ih => intro G h; exact .cons h (ih G h)
    exact this _ _ r1
/-- min, max of ints -/
def minI : List Int → Int
  | [] => 0
  | x :: xs => xs.foldl min x
def maxI : List Int → Int
  | [] => 0
  | x :: xs => xs.foldl max x
theorem foldl_min_le : ∀ (xs : List Int) (x : Int), xs.foldl min x ≤ x ∧ ∀ y ∈ xs, xs.foldl min x ≤ y
  | [], x => ⟨Int.le_refl _, fun y h => nomatch h⟩
  | z :: xs, x => by
    obtain ⟨h1, h2⟩ := foldl_min_le xs (min x z)
    rw [List.foldl_cons]
    refine ⟨by omega, fun y hy => ?_⟩
    rcases List.mem_cons.mp hy with rfl | hy
    · omega
    · exact h2 y hy
theorem foldl_min_mem : ∀ (xs : List Int) (x : Int), xs.foldl min x = x ∨ xs.foldl min x ∈ xs
  | [], x => .inl rfl
  | z :: xs, x => by
    rw [List.foldl_cons]
    rcases foldl_min_mem xs (min x z) with h | h
    · rw [h]
      rcases (by omega : min x z = x ∨ min x z = z) with e | e
      · exact .inl e
      · exact .inr (by rw [e]; exact List.mem_cons_self)
    · exact .inr (List.mem_cons_of_mem _ h)
theorem minI_le {xs : List Int} {y : Int} (h : y ∈ xs) : minI xs ≤ y := by
  cases xs with
  | nil => cases h
  | cons x xs =>
    obtain ⟨h1, h2⟩ := foldl_min_le xs x
    rcases List.mem_cons.mp h with rfl | h
    · exact h1
    · exact h2 y h
theorem minI_mem {xs : List Int} (h : xs ≠ []) : minI xs ∈ xs := by
  cases xs with
  | nil => exact absurd rfl h
  | cons x xs =>
    rcases foldl_min_mem xs x with e | e
    · rw [minI, e]
      exact List.mem_cons_self
    · exact List.mem_cons_of_mem _ e
theorem foldl_max_ge : ∀ (xs : List Int) (x : Int), x ≤ xs.foldl max x ∧ ∀ y ∈ xs, y ≤ xs.foldl max x
  | [], x => ⟨Int.le_refl _, fun y h => nomatch h⟩
  | z :: xs, x => by
    obtain ⟨h1, h2⟩ := foldl_max_ge xs (max x z)
    rw [List.foldl_cons]
    refine ⟨by omega, fun y hy => ?_⟩
    rcases List.mem_cons.mp hy with rfl | hy
    · omega
    · exact h2 y hy
theorem foldl_max_mem : ∀ (xs : List Int) (x : Int), xs.foldl max x = x ∨ xs.foldl max x ∈ xs
  | [], x => .inl rfl
  | z :: xs, x => by
    rw [List.foldl_cons]
    rcases foldl_max_mem xs (max x z) with h | h
    · rw [h]
      rcases (by omega : max x z = x ∨ max x z = z) with e | e
      · exact .inl e
      · exact .inr (by rw [e]; exact List.mem_cons_self)
    · exact .inr (List.mem_cons_of_mem _ h)
theorem maxI_ge {xs : List Int} {y : Int} (h : y ∈ xs) : y ≤ maxI xs := by
  cases xs with
  | nil => cases h
  | cons x xs =>
    obtain ⟨h1, h2⟩ := foldl_max_ge xs x
    rcases List.mem_cons.mp h with rfl | h
    · exact h1
    · exact h2 y h
theorem maxI_mem {xs : List Int} (h : xs ≠ []) : maxI xs ∈ xs := by
  cases xs with
  | nil => exact absurd rfl h
  | cons x xs =>
    rcases foldl_max_mem xs x with e | e
    · rw [maxI, e]
      exact List.mem_cons_self
    · exact List.mem_cons_of_mem _ e
theorem e_minL {xs : List Int} (B : Blt X.mg) (h : Ev X H0 ρ e (.lst (xs.map D.int))) (hne : xs ≠ []) (hc : X.calm = true := by rfl) (hg : Gl X "min" := by rfl) (he : starEach [e] X.env = (false, eval e X.env) :: starEach [] X.env := by rfl) (hpl : (backTo pos (starEach [] X.env)).any (·.1) = false := by rfl) :
    Ev X H0 ρ (.Call (.Name "min" p) [e] [] pos) (.int (minI xs)) :=
  e_callB (cr_min hc) B.min_ (a_cons h a_nil he) (fun vs G H sg sh r Q q => by
    cases r with
    | cons r1 r2 =>
      cases r2
      obtain ⟨a, ys, rfl, hs, r⟩ := r1.lst_of
      obtain rfl := r.ints_of
      refine ⟨a, xs, rfl, SqL.of (sh _ _ hs), List.length_pos_iff.mpr hne, fun m hm hle => ?_⟩
      have e1 : m = minI xs := Int.le_antisymm (hle _ (minI_mem hne)) (minI_le hm)
      rw [e1]
      exact q _ _ _ (Fr.refl sh) (.int _)) (by decide +kernel) hg (by decide) (by decide) he hpl
theorem e_maxL {xs : List Int} (B : Blt X.mg) (h : Ev X H0 ρ e (.lst (xs.map D.int))) (hne : xs ≠ []) (hc : X.calm = true := by rfl) (hg : Gl X "max" := by rfl) (he : starEach [e] X.env = (false, eval e X.env) :: starEach [] X.env := by rfl) (hpl : (backTo pos (starEach [] X.env)).any (·.1) = false := by rfl) :
    Ev X H0 ρ (.Call (.Name "max" p) [e] [] pos) (.int (maxI xs)) :=
  e_callB (cr_max hc) B.max_ (a_cons h a_nil he) (fun vs G H sg sh r Q q => by
    cases r with
    | cons r1 r2 =>
      cases r2
      obtain ⟨a, ys, rfl, hs, r⟩ := r1.lst_of
      obtain rfl := r.ints_of
      refine ⟨a, xs, rfl, SqL.of (sh _ _ hs), List.length_pos_iff.mpr hne, fun m hm hle => ?_⟩
      have e1 : m = maxI xs := Int.le_antisymm (maxI_ge hm) (hle _ (maxI_mem hne))
      rw [e1]
      exact q _ _ _ (Fr.refl sh) (.int _)) (by decide +kernel) hg (by decide) (by decide) he hpl
/-- l.index(x), l a list of ints that holds x -/
theorem e_indexL {xs : List Int} {i : Int} (ho : Ev X H0 ρ o (.lst (xs.map D.int))) (h : Ev X H0 ρ e (.int i)) (hm : i ∈ xs)
    (pe : PE X (.Call (.Attribute o "index" pa) [e] [] p1) (tBM X.K "list" (rIndex X.K) (wE X o) (wA X [e])) := by exact pe_bm PySem.F.plainAttrs_list PySem.F.slot_list_index PySem.F.type_list_index mt_index pw paw)
    (hs2 : starEach [e] X.env = (false, eval e X.env) :: starEach [] X.env := by rfl) : Ev X H0 ρ (.Call (.Attribute o "index" pa) [e] [] p1) (.int ((xs.idxOf i : Nat) : Int)) := fun σ G H sg sh en Q q => by
  refine wE_of pe (ho σ G H sg sh en _ fun v G1 H1 f1 r1 => ?_)
  obtain ⟨a, ys, rfl, hs, r⟩ := r1.lst_of
  obtain rfl := r.ints_of
  refine ⟨.inl ⟨rfl, _, SqL.of (f1.s _ _ hs)⟩, a_cons h a_nil hs2 σ G1 H1 (sg.trans f1.g) f1.s (en.up f1.g) _ fun ws G2 H2 f2 r2 => ?_⟩
  cases r2 with
  | cons r2 r3 =>
    cases r3
    obtain rfl := r2.int_of
    have hl := List.idxOf_lt_length_iff.mpr hm
    refine ⟨a, xs.map V.int, .int i, xs.idxOf i, .int i, rfl, rfl, SqL.of (f2.s _ _ (f2.g _ _ hs)), rfl, flat_ints xs, ?_, ?_, fun m z' hm' hz => ?_, q _ _ _ (f1.trans f2) (.int _)⟩
    · rw [List.getElem?_map, List.getElem?_eq_getElem hl, List.getElem_idxOf hl]
      rfl
    · show (i == i) = true
      simp
    · rw [List.getElem?_map] at hz
      have hml : m < xs.length := by omega
      rw [List.getElem?_eq_getElem hml] at hz
      cases hz
      show (xs[m] == i) = false
      have := List.not_of_lt_findIdx (p := (· == i)) hm'
      simpa using this
/-- while, by a word over the slots and the heaps, with a measure -/
theorem s_while (J : Nat → Ro → Hp → Hp → Prop) (m0 : Nat) (sh : Same G H) (en : En X.K G σ ρ) (h0 : J m0 ρ G H)
    (hs : ∀ m ρ' σ' G' H', J m ρ' G' H' → Same G' H' → En X.K G' σ' ρ' → ∃ k : Bool, EvT X G' ρ' c k ∧ (k = true → ∀ G3 H3, Fr G' H' G3 H3 → En X.K G3 σ' ρ' → wB X body { N with nx := fun σ2 H2 => ∃ m2 ρ2 G2, m2 < m ∧ Same G2 H2 ∧ En X.K G2 σ2 ρ2 ∧ J m2 ρ2 G2 H2, ct := fun σ2 H2 => ∃ m2 ρ2 G2, m2 < m ∧ Same G2 H2 ∧ En X.K G2 σ2 ρ2 ∧ J m2 ρ2 G2 H2, bk := wB X rest N } σ' H3) ∧
      (k = false → ∀ G3 H3, Fr G' H' G3 H3 → En X.K G3 σ' ρ' → wB X rest N σ' H3)) (hp : PassesOwn (model X.prog X.w) X.A X.env X.xe := by exact PassesOwn.never) : wB X (.While c body [] pos :: rest) N σ H := by
  refine wB_cons (wS_of (ps_while hp ptw pbw) ⟨fun m σ' H' => ∃ ρ' G', Same G' H' ∧ En X.K G' σ' ρ' ∧ J m ρ' G' H', ⟨m0, ρ, G, sh, en, h0⟩, ?_⟩)
  rintro m σ' H' ⟨ρ', G', s', en', j⟩
  obtain ⟨k, ht, kt, kf⟩ := hs m ρ' σ' G' H' j s' en'
  refine ht σ' G' H' (Same.refl _) s' en' _ fun G3 H3 f3 => ?_
  cases k with
  | true =>
    rw [if_pos rfl]
    exact ⟨fun σ2 H2 => ∃ m2 ρ2 G2, m2 < m ∧ Same G2 H2 ∧ En X.K G2 σ2 ρ2 ∧ J m2 ρ2 G2 H2, fun σ2 H2 ⟨m2, ρ2, G2, a1, a2, a3, a4⟩ => ⟨m2, a1, ρ2, G2, a2, a3, a4⟩, kt rfl G3 H3 f3 (en'.up f3.g)⟩
  | false =>
    rw [if_neg (by decide)]
    exact kf rfl G3 H3 f3 (en'.up f3.g)
/-- while True -/
theorem s_loop {j} {pc : Pos} (J : Nat → Ro → Hp → Hp → Prop) (m0 : Nat) (sh : Same G H) (en : En X.K G σ ρ) (h0 : J m0 ρ G H)
    (hs : ∀ m ρ' σ' G' H', J m ρ' G' H' → Same G' H' → En X.K G' σ' ρ' → wB X body { N with nx := fun σ2 H2 => ∃ m2 ρ2 G2, m2 < m ∧ Same G2 H2 ∧ En X.K G2 σ2 ρ2 ∧ J m2 ρ2 G2 H2, ct := fun σ2 H2 => ∃ m2 ρ2 G2, m2 < m ∧ Same G2 H2 ∧ En X.K G2 σ2 ρ2 ∧ J m2 ρ2 G2 H2, bk := wB X rest N } σ' H')
    (hp : PassesOwn (model X.prog X.w) X.A X.env X.xe := by exact PassesOwn.never) : wB X (.While (.Constant (.bool true) j pc) body [] pos :: rest) N σ H := by
  refine wB_cons (wS_of (ps_while hp ptw pbw) ⟨fun m σ' H' => ∃ ρ' G', Same G' H' ∧ En X.K G' σ' ρ' ∧ J m ρ' G' H', ⟨m0, ρ, G, sh, en, h0⟩, ?_⟩)
  rintro m σ' H' ⟨ρ', G', s', en', j⟩
  refine wT_of (pt_val pe_bl) ⟨true, rfl, ?_⟩
  show (if (true : Bool) = true then _ else _)
  rw [if_pos rfl]
  exact ⟨fun σ2 H2 => ∃ m2 ρ2 G2, m2 < m ∧ Same G2 H2 ∧ En X.K G2 σ2 ρ2 ∧ J m2 ρ2 G2 H2, fun σ2 H2 ⟨m2, ρ2, G2, a1, a2, a3, a4⟩ => ⟨m2, a1, ρ2, G2, a2, a3, a4⟩, hs m ρ' σ' G' H' j s' en'⟩
end
end G9

/-! Layer I: min and max of a list of alike data. -/
namespace G9
open PySem PySem.Spec PyProof.Rows L2 G9S PySem.SeqAt
open PySem.W (minD maxD AlikeAll alike alikeAll dataLt keyToks keyToksAll)
open PyProof.Rows (itemOrd)
def rMinD (K : PySem.W.Frag) : List V → Hp → VK → Prop := fun vs H Q => ∃ (a : Addr) (ys : List V) (x : PyData) (xs : List PyData), vs = [.ref a] ∧ SqL K H a ys ∧ DpAll K H ys (x :: xs) ∧ AlikeAll (x :: xs) ∧ PyData.canLayAll0 (x :: xs) = true ∧ PyData.depthAll (x :: xs) ≤ 60 ∧ ∀ (i : Nat) (v : V), ys[i]? = some v → (x :: xs)[i]? = some (minD x xs) → Q v H
def rMaxD (K : PySem.W.Frag) : List V → Hp → VK → Prop := fun vs H Q => ∃ (a : Addr) (ys : List V) (x : PyData) (xs : List PyData), vs = [.ref a] ∧ SqL K H a ys ∧ DpAll K H ys (x :: xs) ∧ AlikeAll (x :: xs) ∧ PyData.canLayAll0 (x :: xs) = true ∧ PyData.depthAll (x :: xs) ≤ 60 ∧ ∀ (i : Nat) (v : V), ys[i]? = some v → (x :: xs)[i]? = some (maxD x xs) → Q v H
theorem canAll_mem : ∀ {xs : List PyData} {x : PyData}, PyData.canLayAll0 xs = true → x ∈ xs → x.canLay0 = true
  | y :: ys, x, h, hm => by
    rw [PyData.canLayAll0, Bool.and_eq_true] at h
    rcases List.mem_cons.mp hm with rfl | hm
    · exact h.1
    · exact canAll_mem h.2 hm
theorem vals_back {xs : List V} {us : List Value} (r : Vals xs us) : ∀ {i : Nat} {u : Value}, us[i]? = some u → ∃ x, xs[i]? = some x ∧ RelV x u := by
  intro i u hu
  have hl := r.length
  have hi : i < xs.length := by
    have := (List.getElem?_eq_some_iff.mp hu).1
    omega
  obtain ⟨u', h1, h2⟩ := r.get (List.getElem?_eq_getElem hi)
  rw [hu] at h1
  cases h1
  exact ⟨_, List.getElem?_eq_getElem hi, h2⟩
section
variable {X : Cx}
theorem pick_at {h h' : Heap} {its : List Value} {zs : List PyData} {as bs : List Addr} {v : Value} {i : Nat} {m : PyData} (hr : ReadsAll h its zs as) (hc : PyData.canLayAll0 zs = true) (hv : its[i]? = some v) (rd : Reads h' v m bs) (hk : ∀ b o, h.get? b = some o → h'.get? b = some o) : zs[i]? = some m := by
  obtain ⟨cs, r, hi, hmem, _⟩ := PySem.W.readsAll_at hr i v hv
  have e := Reads.unique _ _ _ _ _ (canAll_mem hc hmem) (PySem.W.reads_keeps hk r) rd
  rw [← e, List.getD_eq_getElem?_getD, List.getElem?_eq_getElem hi]
  rfl
theorem cr_minD (hc : X.calm = true) (hu : X.A.units + 64 < cLine) : CallR X (.builtin "min") (rMinD X.K) := by
  intro pins s σ H vs us Q I r h
  obtain ⟨a, ys, x, xs, rfl, hs, hd, hal, hcl, hdep, q⟩ := h
  obtain ⟨its, rv, hl, hz⟩ := I.list hs
  rw [Vals.ref1 r]
  obtain ⟨as, hr⟩ := Dp.readsAll I (x :: xs) ys its hd rv
  refine PySem.W.min_list_data (I.ok.hd hc) hl.isList (show ReadsAll s.heap its.toArray.toList _ as by simpa using hr) hal (by omega) fun i v h' tk bs hv rd hk => ?_
  have hv' : its[i]? = some v := by simpa using hv
  obtain ⟨y, hy, ry⟩ := vals_back rv hv'
  exact ⟨y, H, I.kept hk, ry, q i y hy (pick_at hr hcl hv' rd hk)⟩
theorem cr_maxD (hc : X.calm = true) (hu : X.A.units + 64 < cLine) : CallR X (.builtin "max") (rMaxD X.K) := by
  intro pins s σ H vs us Q I r h
  obtain ⟨a, ys, x, xs, rfl, hs, hd, hal, hcl, hdep, q⟩ := h
  obtain ⟨its, rv, hl, hz⟩ := I.list hs
  rw [Vals.ref1 r]
  obtain ⟨as, hr⟩ := Dp.readsAll I (x :: xs) ys its hd rv
  refine PySem.W.max_list_data (I.ok.hd hc) hl.isList (show ReadsAll s.heap its.toArray.toList _ as by simpa using hr) hal (by omega) fun i v h' tk bs hv rd hk => ?_
  have hv' : its[i]? = some v := by simpa using hv
  obtain ⟨y, hy, ry⟩ := vals_back rv hv'
  exact ⟨y, H, I.kept hk, ry, q i y hy (pick_at hr hcl hv' rd hk)⟩
end
/-! ### by an order of one's own -/
def minBy {α : Type} (lt : α → α → Bool) (x : α) (xs : List α) : α := xs.foldl (fun a y => if lt y a then y else a) x
structure EncOk {α : Type} (enc : α → D) (lt : α → α → Bool) (n : Nat) : Prop where
  sh : ∀ a, Sh n (enc a)
  lt : ∀ a b, dataLt (enc a).py (enc b).py = lt a b
  al : ∀ a b, alike (enc a).py (enc b).py = true
  nn : ∀ a, (enc a).py ≠ .none
  inj : ∀ a b, (enc a).py = (enc b).py → enc a = enc b
theorem minD_map {α : Type} {enc : α → D} {lt : α → α → Bool} {n : Nat} (E : EncOk enc lt n) : ∀ (xs : List α) (x : α), minD (enc x).py (D.pyL (xs.map enc)) = (enc (minBy lt x xs)).py
  | [], x => rfl
  | y :: ys, x => by
    have ih := minD_map E ys (if lt y x then y else x)
    show (D.pyL (ys.map enc)).foldl _ (if dataLt (enc y).py (enc x).py then (enc y).py else (enc x).py) = _
    have e : (if dataLt (enc y).py (enc x).py then (enc y).py else (enc x).py) = (enc (if lt y x then y else x)).py := by
      rw [E.lt]
      split <;> rfl
    rw [e]
    exact ih
theorem pyL_get {ds : List D} {i : Nat} : (D.pyL ds)[i]? = ds[i]?.map D.py := by
  induction ds generalizing i with
  | nil => simp [D.pyL]
  | cons d ds ih =>
    rw [D.pyL]
    cases i with
    | zero => simp
    | succ i => simp [ih]
theorem pyL_map {α : Type} (enc : α → D) : ∀ xs : List α, D.pyL (xs.map enc) = xs.map fun x => (enc x).py
  | [] => rfl
  | x :: xs => by rw [List.map_cons, D.pyL, pyL_map enc xs, List.map_cons]
theorem dpAll_enc {K : PySem.W.Frag} {H : Hp} {α : Type} {enc : α → D} {n : Nat} (hs : ∀ a, Sh n (enc a)) : ∀ {xs : List α} {vs : List V}, RpL K H vs (xs.map enc) → DpAll K H vs (D.pyL (xs.map enc))
  | [], _, .nil => .nil
  | x :: xs, _, .cons r t => .cons ((hs x).dp r) (dpAll_enc hs t)
section
variable {X : Cx} {H0 : Hp} {ρ : Ro} {e : Expr} {p pos : Pos} {α : Type}
theorem e_minB {enc : α → D} {lt : α → α → Bool} {n : Nat} {x : α} {xs : List α} (E : EncOk enc lt n) (hn : n ≤ 60) (hu : X.A.units + 64 < cLine) (B : Blt X.mg) (h : Ev X H0 ρ e (.lst ((x :: xs).map enc))) (hc : X.calm = true := by rfl) (hg : Gl X "min" := by rfl) (he : starEach [e] X.env = (false, eval e X.env) :: starEach [] X.env := by rfl) (hpl : (backTo pos (starEach [] X.env)).any (·.1) = false := by rfl) :
    Ev X H0 ρ (.Call (.Name "min" p) [e] [] pos) (enc (minBy lt x xs)) :=
  e_callB (cr_minD hc hu) B.min_ (a_cons h a_nil he) (fun vs G H sg sh r Q q => by
    cases r with
    | cons r1 r2 =>
      cases r2
      obtain ⟨a, ys, rfl, hs, r⟩ := r1.lst_of
      have hmem : ∀ z ∈ D.pyL ((x :: xs).map enc), ∃ w, z = (enc w).py := fun z hz => by
        rw [pyL_map] at hz
        obtain ⟨w, _, rfl⟩ := List.mem_map.mp hz
        exact ⟨w, rfl⟩
      refine ⟨a, ys, (enc x).py, D.pyL (xs.map enc), rfl, SqL.of (sh _ _ hs), dpAll_enc E.sh (r.up sh), ⟨fun z hz z' hz' => ?_, fun z hz => ?_⟩, ?_, ?_, fun i v hv hi => ?_⟩
      · obtain ⟨w, rfl⟩ := hmem z hz
        obtain ⟨w', rfl⟩ := hmem z' hz'
        exact E.al w w'
      · obtain ⟨w, rfl⟩ := hmem z hz
        exact E.nn w
      · exact canAll_of (ds := (x :: xs).map enc) fun d hd => by
          obtain ⟨w, _, rfl⟩ := List.mem_map.mp hd
          exact (E.sh w).depth.2
      · exact Nat.le_trans (depthAll_le (ds := (x :: xs).map enc) (n := n) fun d hd => by
          obtain ⟨w, _, rfl⟩ := List.mem_map.mp hd
          exact (E.sh w).depth.1) hn
      · have hi2 : (D.pyL ((x :: xs).map enc))[i]? = some (enc (minBy lt x xs)).py := by
          rw [← minD_map E]
          exact hi
        rw [pyL_get, List.getElem?_map] at hi2
        cases hw : (x :: xs)[i]? with
        | none => rw [hw] at hi2; cases hi2
        | some w =>
          rw [hw] at hi2
          have e1 := E.inj _ _ (Option.some.inj hi2)
          obtain ⟨v2, hv2, rv2⟩ := r.get (i := i) (d := enc w) (by rw [List.getElem?_map, hw]; rfl)
          rw [hv] at hv2
          cases hv2
          refine q v _ _ (Fr.refl sh) ?_
          rw [← e1]
          exact rv2) (by decide +kernel) hg (by decide) (by decide) he hpl
end
/-! ### pairs of an int and a set -/
abbrev dP (q : Int × List Int) : D := .tup [.int q.1, dS q.2]
def ltP (a b : Int × List Int) : Bool := if a.1 = b.1 then HT.lexLt a.2 b.2 else decide (a.1 < b.1)
theorem keyToks_dS : ∀ a b : List Int, PyProof.Rows.lexLt itemOrd (keyToksAll (D.pyL (a.map D.int))) (keyToksAll (D.pyL (b.map D.int))) = HT.lexLt a b
  | [], [] => by decide
  | [], b :: bs => by
    simp only [List.map_nil, List.map_cons, D.pyL, D.py, keyToksAll, keyToks]
    rfl
  | a :: as, [] => by
    simp only [List.map_nil, List.map_cons, D.pyL, D.py, keyToksAll, keyToks]
    rfl
  | a :: as, b :: bs => by
    have ih := keyToks_dS as bs
    rw [HT.lexLt_cons]
    simp only [List.map_cons, D.pyL, D.py, keyToksAll, keyToks, List.singleton_append, List.cons_append, List.nil_append]
    rw [PyProof.Rows.lex_self (O := itemOrd)]
    by_cases h : a = b
    · subst h
      rw [if_pos rfl, PyProof.Rows.lex_self (O := itemOrd)]
      exact ih
    · rw [if_neg h, PySem.W.lex_atom (fun z => h (by injection z))]
      simp only [PyProof.Rows.lexLt]
      show _ = decide (a < b)
      by_cases h1 : a < b
      · simp [PyProof.Rows.itemLt, h1]
      · simp [PyProof.Rows.itemLt, h1]
theorem dataLt_dS (a b : List Int) : dataLt (dS a).py (dS b).py = HT.lexLt a b := keyToks_dS a b
theorem keyToks_app (s u : List (Int ⊕ List Nat)) : ∀ a b : List Int, PyProof.Rows.lexLt itemOrd (keyToksAll (D.pyL (a.map D.int)) ++ s) (keyToksAll (D.pyL (b.map D.int)) ++ u) = if a = b then PyProof.Rows.lexLt itemOrd s u else HT.lexLt a b
  | [], [] => by
    simp only [List.map_nil, D.pyL, keyToksAll, List.singleton_append]
    rw [PyProof.Rows.lex_self (O := itemOrd), if_pos trivial]
  | [], b :: bs => by
    simp only [List.map_nil, List.map_cons, D.pyL, D.py, keyToksAll, keyToks, List.cons_append, List.nil_append]
    rw [PySem.W.lex_atom (by decide), if_neg (by simp)]
    rfl
  | a :: as, [] => by
    simp only [List.map_nil, List.map_cons, D.pyL, D.py, keyToksAll, keyToks, List.cons_append, List.nil_append]
    rw [PySem.W.lex_atom (by decide), if_neg (by simp)]
    rfl
  | a :: as, b :: bs => by
    have ih := keyToks_app s u as bs
    rw [HT.lexLt_cons]
    simp only [List.map_cons, D.pyL, D.py, keyToksAll, keyToks, List.singleton_append, List.cons_append, List.nil_append]
    rw [PyProof.Rows.lex_self (O := itemOrd)]
    by_cases h : a = b
    · subst h
      rw [if_pos rfl, PyProof.Rows.lex_self (O := itemOrd), ih]
      by_cases h2 : as = bs
      · rw [if_pos h2, if_pos (by rw [h2])]
      · rw [if_neg h2, if_neg (by simpa using h2)]
    · rw [if_neg h, PySem.W.lex_atom (fun z => h (by injection z)), if_neg (by simp [h])]
      simp only [PyProof.Rows.lexLt]
      show _ = decide (a < b)
      by_cases h1 : a < b
      · simp [PyProof.Rows.itemLt, h1]
      · simp [PyProof.Rows.itemLt, h1]
theorem dataLt_dP (q r : Int × List Int) : dataLt (dP q).py (dP r).py = ltP q r := by
  obtain ⟨i, a⟩ := q
  obtain ⟨j, b⟩ := r
  unfold ltP dataLt
  simp only [D.py, D.pyL, keyToks, keyToksAll, List.singleton_append, List.cons_append, List.nil_append]
  rw [PyProof.Rows.lex_self (O := itemOrd)]
  by_cases h : i = j
  · subst h
    rw [if_pos rfl, PyProof.Rows.lex_self (O := itemOrd), PyProof.Rows.lex_self (O := itemOrd), keyToks_app]
    by_cases h2 : a = b
    · subst h2
      rw [if_pos rfl, stoL.irr]
      decide
    · rw [if_neg h2]
  · rw [if_neg h, PySem.W.lex_atom (fun z => h (by injection z))]
    simp only [PyProof.Rows.lexLt]
    by_cases h1 : i < j
    · simp [PyProof.Rows.itemLt, h1]
    · simp [PyProof.Rows.itemLt, h1]
theorem alike_ints : ∀ a b : List Int, alikeAll (D.pyL (a.map D.int)) (D.pyL (b.map D.int)) = true
  | [], _ => by simp [D.pyL, alikeAll]
  | _ :: _, [] => by simp [D.pyL, alikeAll]
  | a :: as, b :: bs => by
    have ih := alike_ints as bs
    simp only [List.map_cons, D.pyL, D.py, alikeAll, alike, ih, Bool.and_true]
theorem py_ints_inj : ∀ {a b : List Int}, D.pyL (a.map D.int) = D.pyL (b.map D.int) → a = b
  | [], [], _ => rfl
  | [], _ :: _, h => by simp [D.pyL] at h
  | _ :: _, [], h => by simp [D.pyL] at h
  | a :: as, b :: bs, h => by
    simp only [List.map_cons, D.pyL, D.py, List.cons.injEq, PyData.int.injEq] at h
    rw [h.1, py_ints_inj h.2]
theorem sh_dP {n : Nat} (q : Int × List Int) : Sh (n + 2) (dP q) := .tup fun d hd => by
  rcases List.mem_cons.mp hd with rfl | hd
  · exact .int _
  · rw [List.mem_singleton.mp hd]
    exact sh_dS _
theorem encP : EncOk dP ltP 2 := ⟨fun a => sh_dP (n := 0) a, dataLt_dP, fun a b => by
    simp only [D.py, D.pyL, alike, alikeAll, alike_ints, Bool.and_true], fun a => by simp [D.py], fun a b h => by
    simp only [D.py, D.pyL, PyData.tuple.injEq, List.cons.injEq, PyData.int.injEq, and_true] at h
    have h2 := py_ints_inj h.2
    obtain ⟨i, a⟩ := a
    obtain ⟨j, b⟩ := b
    simp only at h h2
    rw [h.1, h2]⟩
end G9

/-! Layer J: x in a tuple of sets. -/
namespace G9
open PySem PySem.Spec PyProof.Rows L2 G9S PySem.SeqAt
open PySem.W (minD maxD AlikeAll alike alikeAll dataLt keyToks keyToksAll)
/-! ### x in a tuple of sets -/
def rInT (K : PySem.W.Frag) (neg : Bool) : R2 := fun x y H Q => ∃ d ds, Dp K H x d ∧ Dp K H y (.tuple ds) ∧ SeqAt.shaped d = true ∧ SeqAt.shaped (.tuple ds) = true ∧ Q (.bl (if neg then !ds.any (fun z => PyData.eqv z d) else ds.any fun z => PyData.eqv z d)) H
section
variable {X : Cx} {H0 : Hp} {ρ : Ro} {e a b c o : Expr} {es : List Expr} {d : D} {ds : List D} {p p1 p2 p3 pa pos : Pos} {n : Int}
theorem room_tup {d : PyData} {ds : List PyData} (sd : SeqAt.shaped d = true) (hu : X.A.units + 65 < cLine) : X.A.units + 1 + min (PyData.depthAll ds) d.depth < cLine := by
  have : d.depth ≤ 64 := by
    unfold SeqAt.shaped at sd
    simp only [Bool.and_eq_true, decide_eq_true_eq] at sd
    omega
  omega
theorem op_inT (hu : X.A.units + 65 < cLine) : OpR X (compareOp .In) (rInT X.K false) := by
  intro pins s σ H x y v u Q I rx ry h
  obtain ⟨d, ds, hd, he, sd, se, q⟩ := h
  obtain ⟨as, r1⟩ := Dp.reads I d x v hd rx
  obtain ⟨bs, r2⟩ := Dp.reads I (.tuple ds) y u he ry
  exact SeqAt.in_tuple_reads r2 r1 (SeqAt.canLay_of_shaped se) (SeqAt.canLay_of_shaped sd) (room_tup sd hu) ⟨.bl _, H, I, rfl, q⟩
theorem op_notInT (hu : X.A.units + 65 < cLine) : OpR X (compareOp .NotIn) (rInT X.K true) := by
  intro pins s σ H x y v u Q I rx ry h
  obtain ⟨d, ds, hd, he, sd, se, q⟩ := h
  obtain ⟨as, r1⟩ := Dp.reads I d x v hd rx
  obtain ⟨bs, r2⟩ := Dp.reads I (.tuple ds) y u he ry
  exact SeqAt.notIn_tuple_reads r2 r1 (SeqAt.canLay_of_shaped se) (SeqAt.canLay_of_shaped sd) (room_tup sd hu) ⟨.bl _, H, I, rfl, q⟩
theorem rd_inTD {K : PySem.W.Frag} {x : List Int} {ks : List (List Int)} : Rd2 K H0 (rInT K false) (dS x) (dF ks) (.bl (ks.contains x)) := fun v u G H _ s rx ry Q q => by
  refine ⟨(dS x).py, D.pyL (ks.map dS), (sh_dS (n := 0) x).dp (rx.up s), (sh_dF (n := 0) ks).dp (ry.up s), (sh_dS (n := 0) x).shaped, (sh_dF (n := 0) ks).shaped, ?_⟩
  rw [any_sets]
  exact q _ _ _ (Fr.refl s) (.bl _)
theorem rd_ninTD {K : PySem.W.Frag} {x : List Int} {ks : List (List Int)} : Rd2 K H0 (rInT K true) (dS x) (dF ks) (.bl (!ks.contains x)) := fun v u G H _ s rx ry Q q => by
  refine ⟨(dS x).py, D.pyL (ks.map dS), (sh_dS (n := 0) x).dp (rx.up s), (sh_dF (n := 0) ks).dp (ry.up s), (sh_dS (n := 0) x).shaped, (sh_dF (n := 0) ks).shaped, ?_⟩
  rw [any_sets]
  exact q _ _ _ (Fr.refl s) (.bl _)
end
end G9

/-! Layer K: tuple * k, k not below 1. -/
namespace G9
open PySem PySem.Spec PyProof.Rows L2 G9S
theorem tuple_mul1 (l : Addr) (items : Array Value) (n : Nat) (dd : Option Addr) (sl : Array (Option Value)) (u : Tok) :
    Meets (Builtin.«tuple.__mul__» ⟨[.ref l, .int 1 u], []⟩) (fun _ R s => s.heap.get? l = some { cls := .type "tuple", dict := dd, data := .seq items n, slots := sl } ∧ R (.ok (.ret (Value.ref l))) s) :=
  .of_wp fun prog w A R s h => by
    obtain ⟨hp, g, d, tk, os⟩ := s
    obtain ⟨hl, h⟩ := h
    have f1 := AutoSeq1.idx_int
    wp_walk using wpAny_loadPart' hl
    exact ⟨_, rfl, h⟩
def rRepU (K : PySem.W.Frag) : R2 := fun x y H Q => (∃ l xs, x = .ref l ∧ y = .int 1 ∧ SqT K H l xs ∧ Q (.ref l) H) ∨ rRepT K x y H Q
theorem op_repU {X : Cx} : OpR X (binaryOp .Mult) (rRepU X.K) := by
  intro pins s σ H x y v u Q I rx ry h
  rcases h with ⟨l, xs, rfl, rfl, hT, q⟩ | h
  · cases rx
    obtain ⟨t, rfl⟩ := ry
    obtain ⟨its, r, ⟨⟨cls, dd, data, sl⟩, ho, hc, n, hd⟩, hs⟩ := I.tuple hT
    simp only at hc hd
    subst hc hd
    refine wpAny_binaryOp_repeat_ref (T := "tuple") (U := "int") (by decide) ⟨_, ho, rfl⟩ (fun s' => typeIs_int s' 1 t) noFill_tuple_mul PySem.F.fills_int_mul PySem.F.slot_int_rmul repeat_tuple PySem.F.slot_int_index.lookup
      (call_meets PySem.F.slot_int_rmul (typeIs_int s 1 t) PySem.F.entry_int_rmul (PySem.F.args_int_rmul_2 _ _) (int_rmul_tuple 1 t l its.toArray n dd sl)
        ⟨ho, rfl, ⟨_, ho, rfl⟩, call_meets PySem.F.slot_tuple_mul ⟨_, ho, rfl⟩ PySem.F.entry_tuple_mul (PySem.F.args_tuple_mul_2 _ _) (tuple_mul1 l its.toArray n dd sl t) ⟨ho, ?_⟩⟩)
    exact ⟨.ref l, _, I, rfl, q⟩
  · exact op_repT pins s σ H x y v u Q I rx ry h
theorem rd_repU {K : PySem.W.Frag} {H0 : Hp} {d : D} {k : Int} (hk : 1 ≤ k ∧ k ≤ 1000) : Rd2 K H0 (rRepU K) (.tup [d]) (.int k) (.tup (List.replicate k.toNat d)) := fun x y G H sg s rx ry Q q => by
  by_cases h1 : k = 1
  · subst h1
    cases ry.int_of
    obtain ⟨a, xs, rfl, hs, r⟩ := rx.tup_of
    exact .inl ⟨a, xs, rfl, rfl, Same.sqT s hs, q _ _ _ (Fr.refl s) (.tup hs r)⟩
  · exact .inr (rd_repT (by omega) x y G H sg s rx ry Q q)
end G9

/-! Layer Z: an exception that was caught, returned and held as a value. -/
namespace G9
open PySem PySem.Spec PyProof.Rows L2 G9S L2H HotX
open LamX (Tabs ExtN CodeO TabB LamS lamEnv)
/-- a caught exception of the class cls -/
def ExR (cls : Value) (a : Addr) : HO := .ext fun h => ∃ (oe : Obj) (vs : Array Value), h.get? a = some oe ∧ Zc cls none oe ∧ oe.data = .fields vs
theorem exR_ok {P : Program} {w : World} {H : Hp} {h : Heap} {a : Addr} {cls : Value} {oe : Obj} {vs : Array Value} (e : h.get? a = some oe) (z : Zc cls none oe) (d : oe.data = .fields vs) : ObjOk P w H h a (ExR cls a) :=
  ⟨⟨oe, vs, e, z, d⟩, ⟨oe, e⟩, fun _ _ ⟨o, v, q1, q2⟩ k => ⟨o, v, k o q1, q2⟩⟩
section
variable {X : Cx} {pins : List (Addr × Obj)} {σ : L2.St} {H : Hp} {s : Shared} {a : Addr} {o : HO}
/-- an object that lay there unknown is known from now on -/
theorem track (J : Inv X pins σ H s) (na : H a = none) (new0 : X.s_0.heap.get? a = none) (notL : a ≠ X.env.locals) (notC : ∀ x c, X.env.cells.lookup x = some c → c ≠ a) (notP : ∀ p ∈ X.pn ++ pins, p.1 ≠ a) (good : ObjOk X.prog X.w (upd H a o) s.heap a o) :
    Inv X pins σ (upd H a o) s := by
  have far : ∀ b u, X.s_0.heap.get? b = some u → b ≠ a := fun b u q z => by
    rw [z, new0] at q
    cases q
  have known : ∀ b u, H b = some u → b ≠ a := fun b u q z => by
    rw [z, na] at q
    cases q
  refine ⟨J.ok, J.os, J.bare, ⟨J.base.keep, J.base.slot, fun b u q1 q2 q3 => ?_, J.base.there, fun b xs q => ?_, fun b u v q => ?_, fun b ps q => ?_⟩, J.loc, J.cell, ?_, fun x c q => ?_, fun p hp => ?_, J.hok.laidN (fun _ _ z => z) na good, J.len⟩
  · rw [upd_ne (far b u q1)]
    exact J.base.free b u q1 q2 q3
  · have := J.base.tups b xs q
    rw [upd_ne (known b _ this)]
    exact this
  · have := J.base.frzs b u v q
    rw [upd_ne (known b _ this)]
    exact this
  · obtain ⟨more, this⟩ := J.base.tbls b ps q
    exact ⟨more, by rw [upd_ne (known b _ this)]; exact this⟩
  · rw [upd_ne (Ne.symm notL)]
    exact J.free
  · rw [upd_ne (notC x c q)]
    exact J.freeC x c q
  · obtain ⟨q1, q2, q3⟩ := J.pin p hp
    exact ⟨q1, by rw [upd_ne (notP p hp)]; exact q2, q3⟩
end
/-- what 'except x as n: return n' wishes of an exception -/
def wKeep (K : PySem.W.Frag) (c : Value) (D : Ends) : WX := fun cls d _ H => d = none ∧ PySem.W.exmOne K cls c = some true ∧ ∀ a, H a = none → D.rt (.ref a) (upd H a (ExR cls a))
section
variable {X : Cx} {x n : Str} {c : Value} {i : Nat} {body : List Stmt} {np pr pq pos pos' : Pos} {tb : WX → TS}
theorem ps_try_keep (stk : X.stack = X.env :: X.outer) (frm : X.env.frame = some X.env.locals) (noex : X.ex = []) (nod : X.N.Nodup) (at_ : X.N[i]? = some n) (loc : X.env.kindOf n = some .local) (nam : L2.Names X x c)
    (hdb : (n == ("__debug__" : Str)) = false) (hcd : (n == ("__classdict__" : Str)) = false)
    (run : ∀ (W : WX) (pn : List (Addr × Obj)) (xe : Value → Shared → Prop), L2N.Takes (X.tr pn xe) W → PassesOwn (model X.prog X.w) X.A X.env xe → PSs (X.tr pn xe) body (tb W)) :
    PS X (.Try body [.ExceptHandler (some (.Name x np)) (some n) [.Return (some (.Name n pr)) pq] pos'] [] [] pos) (fun D σ H => tb (wKeep X.K c D) D σ H) := by
  refine ⟨fun pins s σ H D I h => ?_⟩
  have good := I.ok
  have frs0 : X.A.frames = some (X.env :: X.outer) := by rw [good.frames, stk]
  refine wpAny_Try_except ?_
  refine wpAny_mono ((run (wKeep X.K c D) (X.pn ++ pins) (fun ev s1 => wpAny (model X.prog X.w) X.A (noteFrame ev X.env) (fun _ s2 => wpAny (model X.prog X.w) X.A (setFlight ev none)
    (fun _ s3 => wpAny (model X.prog X.w) X.A (handleBy ev X.env [.ExceptHandler (some (.Name x np)) (some n) [.Return (some (.Name n pr)) pq] pos']) (SP X pins D) X.xe s3) X.xe s2) X.xe s1)
    (fun u s' air => ?_) PassesOwn.looking).run [] s σ H D (I.toTry _) h) (fun fl s1 end1 => ?_) fun _ _ z => z
  · obtain ⟨a, B, sI, _, σ1, H1, cls, d, rfl, J0, inB, up, sky, na, eos, ebare, dn, ex1, wish⟩ := air
    subst dn
    have J : Inv X pins σ1 H1 sI := J0.ofTry good
    have sky1 : L2.Sky B (X.env :: X.outer) a (L2N.Zn cls none) X.env.locals s'.heap := by
      rw [← stk]
      exact sky
    have outB : B.get? a = none := by
      rcases sky1 with z | z | z
      · exact z.2.1
      · exact z.2.1
      · exact z.2.1
    show wpAny (model X.prog X.w) X.A (noteFrame (.ref a) X.env) _ _ _
    refine L2N.Sky.land L2N.Zn.steady frs0 frm sky1 fun h3 air3 up3 => ?_
    obtain ⟨o3, v3, got3, z3, dat3⟩ := air3.there
    have offFrames : a ∉ frs (X.env :: X.outer) := fun hm => by
      obtain ⟨_, o', e', hnf⟩ := (air3.2.2.1).mem hm
      rw [got3] at e'
      cases e'
      exact hnf _ dat3
    have notL : a ≠ X.env.locals := fun z => offFrames (List.mem_filterMap.mpr ⟨X.env, List.mem_cons_self, by rw [frm, z]⟩)
    have notF : a ∉ X.fs := fun hm => by
      obtain ⟨e, he, q⟩ := List.mem_filterMap.mp hm
      exact offFrames (List.mem_filterMap.mpr ⟨e, List.mem_cons_of_mem _ he, q⟩)
    -- it was not there before
    have before : sI.heap.get? a = none := by
      cases q : sI.heap.get? a with
      | none => rfl
      | some ob =>
        have := inB a ob q (by
          show a ∉ frs X.stack
          rw [stk]
          exact offFrames)
        rw [outB] at this
        cases this
    have new0 : X.s_0.heap.get? a = none := by
      cases q : X.s_0.heap.get? a with
      | none => rfl
      | some ob =>
        obtain ⟨o', q'⟩ := J.base.there a ob q (by rw [noex]; exact fun z => nomatch z)
        rw [before] at q'
        cases q'
    have notC : ∀ y cl, X.env.cells.lookup y = some cl → cl ≠ a := fun y cl q z => by
      obtain ⟨v, ob, q1, _⟩ := J.cell y cl q
      rw [z, before] at q1
      cases q1
    have notP : ∀ p ∈ X.pn ++ pins, p.1 ≠ a := fun p hp z => by
      have := (J.pin p hp).1
      rw [z, before] at this
      cases this
    have J3 : Inv X pins σ1 H1 { s' with heap := h3 } := J.landed inB air3.1 (up.trans up3) eos ebare
    have S3 := J3.suite got3 dat3 na notL notF
    refine wpAny_handleBy_cons (codeAny_handlers_test ?_) (by intro q; cases q)
    have lookT : PySem.W.Looks (model X.prog X.w) h3 (typeOf (.ref a)) cls := fun A Q E s k q => wpAny_typeOf_ref (k _ _ got3) (by
      rw [z3.1]
      exact q)
    have meets := PySem.W.exm_one (M := model X.prog X.w) J3.kIn lookT ex1
    have ask : ∀ {Q : Value → Shared → Prop} {E : Value → Shared → Prop}, Q c { s' with heap := h3 } → wpAny (model X.prog X.w) (X.A.mark (some (.ref a))) (eval (.Name x np) X.env) Q E { s' with heap := h3 } := fun {Q E} q => by
      obtain ⟨g1, g2, g3 | ⟨g3, g4, g5⟩⟩ := nam
      · exact ld_glob (X := X.suite a ((a, o3) :: (X.pn ++ pins))) S3 g1 g3 q g2
      · exact ld_blt (X := X.suite a ((a, o3) :: (X.pn ++ pins))) S3 g1 g3 g4 q g5 g2
    refine ask (meets.here ?_)
    refine codeAny_handlers_suite_as ?_
    refine HandSPX.lands_againZ air3 fun h4 air4 up4 => ?_
    have J4 : Inv X pins σ1 H1 { s' with heap := h4 } := J.landed inB air4.1 ((up.trans up3).trans up4) eos ebare
    obtain ⟨o4, v4, got4, z4, dat4⟩ := air4.there
    have S4 := J4.suite got4 dat4 na notL notF
    refine store_ok (X := X.suite a ((a, o4) :: (X.pn ++ pins))) (v := .ref a) S4 nod at_ (.inl loc) rfl (fun s5 S5 => ?_) (.inr loc)
    have back : PSs (X.suite a ((a, o4) :: (X.pn ++ pins))) [.Return (some (.Name n pr)) pq] (tRet (tVar i)) := pss_one (ps_ret (pe_var at_ (.inl loc) hdb hcd))
    have hσ : (σ1.set i (some (V.ref a)))[i]? = some (some (.ref a)) := List.getElem?_set_self (by
      have := (List.getElem?_eq_some_iff.mp at_).1
      rw [J.len]
      exact this)
    refine wpAny_mono (back.run [] s5 _ H1 { nx := fun _ _ => False, rt := fun v H' => v = .ref a ∧ H' = H1, bk := fun _ _ => False, ct := fun _ _ => False } S5 ⟨_, hσ, rfl, rfl⟩) (fun fl s6 done => ?_) (fun _ _ z => False.elim z)
    cases fl with
    | next =>
      obtain ⟨_, _, _, z⟩ := done
      exact z.elim
    | brk =>
      obtain ⟨_, _, _, z⟩ := done
      exact z.elim
    | cont =>
      obtain ⟨_, _, _, z⟩ := done
      exact z.elim
    | ret u =>
      obtain ⟨v6, σ6, H6, S6, r6, e1, e2⟩ := done
      subst e1
      subst e2
      refine gone_ok (X := X.suite a ((a, o4) :: (X.pn ++ pins))) S6 nod at_ loc fun s7 S7 => ?_
      have got7 : s7.heap.get? a = some o4 := (S7.pin (a, o4) (List.mem_append_left _ List.mem_cons_self)).1
      exact ⟨_, _, _, track (S7.unsuite good) na new0 notL notC notP (exR_ok got7 z4.zc dat4), r6, wish a na⟩
  · cases fl with
    | next =>
      obtain ⟨σ1, H1, J1, q⟩ := end1
      exact wpAny_execs_nil ⟨σ1, H1, J1.ofTry good, q⟩
    | brk =>
      obtain ⟨σ1, H1, J1, q⟩ := end1
      exact ⟨σ1, H1, J1.ofTry good, q⟩
    | cont =>
      obtain ⟨σ1, H1, J1, q⟩ := end1
      exact ⟨σ1, H1, J1.ofTry good, q⟩
    | ret u =>
      obtain ⟨v, σ1, H1, J1, r, q⟩ := end1
      exact ⟨v, σ1, H1, J1.ofTry good, r, q⟩
/-- isinstance(e, ..) of an exception that is held -/
def rIsX (K : PySem.W.Frag) (C : Addr) : List V → Hp → VK → Prop := fun xs H Q => ∃ (a : Addr) (t : V) (cv : Value) (b : Bool), xs = [.ref a, t] ∧ H a = some (ExR (.ref C) a) ∧ (∀ u, RelV t u → u = cv) ∧ PySem.W.kitOne K (.ref C) cv = some b ∧ Q (.bl b) H
theorem call_isX {C : Addr} (E : ExcC X.K C) : CallR X (.builtin "isinstance") (rIsX X.K C) := by
  intro pins s σ H xs us Q I r h
  obtain ⟨a, t, cv, b, rfl, ha, hcv, hk, q⟩ := h
  cases r with
  | cons rx rr =>
    cases rr with
    | cons rt rr =>
      cases rr
      cases rx
      have ec := hcv _ rt
      subst ec
      obtain ⟨⟨oe, vs, got, z, dat⟩, _⟩ := (show ObjOk X.prog X.w H s.heap a (ExR (.ref C) a) from I.hok a _ ha)
      have J : PySem.W.InstAt s.heap a oe C none := by
        obtain ⟨oc, od, oda, osl⟩ := oe
        obtain ⟨h1, h2⟩ := z
        dsimp only at h1 h2 dat got ⊢
        subst h1 h2 dat
        exact ⟨got, rfl, rfl, trivial⟩
      exact PySem.W.kia_one (PySem.W.handS_kitx_exc E.hg E.hk E.hs E.hd E.ha E.hn E.ht E.hm) I.kIn J hk (fun z => nomatch z) fun tk => ⟨.bl b, H, I.kept (t' := tk) fun _ _ z => z, rfl, q⟩
end
end G9

/-! Layer Q: texts. -/
namespace G9
open PySem PySem.Spec PyProof.Rows L2 G9S
theorem RpL.strs {K : PySem.W.Frag} {H : Hp} : ∀ (ys : List Str), RpL K H (ys.map V.str) (ys.map D.str)
  | [] => .nil
  | y :: ys => .cons (.str y) (RpL.strs ys)
section
variable {X : Cx} {H0 : Hp} {ρ : Ro} {e o : Expr} {p p1 pa pos : Pos}
theorem rd_catS {K : PySem.W.Frag} {i j : Str} (hz : i.length + j.length ≤ sizeLine) : Rd2 K H0 (fun x y H Q => ∃ i j, x = .str i ∧ y = .str j ∧ i.length + j.length ≤ sizeLine ∧ Q (.str (i ++ j)) H) (.str i) (.str j) (.str (i ++ j)) := fun x y G H _ s rx ry Q q => by
  cases rx
  cases ry
  exact ⟨i, j, rfl, rfl, hz, q _ _ _ (Fr.refl s) (.str _)⟩
theorem rd_inS {K : PySem.W.Frag} {i j : Str} : Rd2 K H0 (fun x y H Q => ∃ i j, x = .str i ∧ y = .str j ∧ Q (.bl (!(Builtin.Str.occurrences j i 0 j.length 1).isEmpty)) H) (.str i) (.str j) (.bl (!(Builtin.Str.occurrences j i 0 j.length 1).isEmpty)) := fun x y G H _ s rx ry Q q => by
  cases rx
  cases ry
  exact ⟨i, j, rfl, rfl, q _ _ _ (Fr.refl s) (.bl _)⟩
theorem rd_neT {K : PySem.W.Frag} {x y : Str} : Rd2 K H0 rNe (.str x) (.str y) (.bl (!decide (x = y))) := fun v u G H _ s rx ry Q q => by
  cases rx.str_of
  cases ry.str_of
  refine ⟨rfl, ?_⟩
  have e : decide (V.str x = V.str y) = decide (x = y) := decide_eq_decide.mpr ⟨fun z => by cases z; rfl, fun z => by rw [z]⟩
  rw [e]
  exact q _ _ _ (Fr.refl s) (.bl _)
theorem rd_ninS {K : PySem.W.Frag} {i j : Str} : Rd2 K H0 (fun x y H Q => ∃ i j, x = .str i ∧ y = .str j ∧ Q (.bl (!(!(Builtin.Str.occurrences j i 0 j.length 1).isEmpty))) H) (.str i) (.str j) (.bl (!(!(Builtin.Str.occurrences j i 0 j.length 1).isEmpty))) := fun x y G H _ s rx ry Q q => by
  cases rx
  cases ry
  exact ⟨i, j, rfl, rfl, q _ _ _ (Fr.refl s) (.bl _)⟩
theorem rd_ixS {K : PySem.W.Frag} {z : Str} {i : Int} {c : Nat} (hz : z.length ≤ sizeLine) (h : atI z.cps.toList i = some c) : Rd2 K H0 rIxS (.str z) (.int i) (.str ⟨#[c]⟩) := fun x y G H _ s rx ry Q q => by
  cases rx
  cases ry
  exact ⟨z, i, c, rfl, rfl, hz, h, q _ _ _ (Fr.refl s) (.str _)⟩
/-- sep.join(list of texts) -/
theorem e_joinS {a : Str} {ys : List Str} (ho : Ev X H0 ρ o (.str a)) (h : Ev X H0 ρ e (.lst (ys.map D.str))) (hz : (ys.map (·.length)).sum + ys.length * a.length ≤ 16777216)
    (pe : PE X (.Call (.Attribute o "join" pa) [e] [] p1) (tBM X.K "str" (fun x xs H Q => ∃ a p, ∃ ys : List Str, x = .str a ∧ xs = [.ref p] ∧ (SqL X.K H p (ys.map V.str) ∨ SqT X.K H p (ys.map V.str)) ∧ (ys.map (·.length)).sum + ys.length * a.length ≤ 16777216 ∧ Q (.str (Txt.join a ys)) H) (wE X o) (wA X [e])) := by exact pe_bm PySem.F.plainAttrs_str PySem.F.slot_str_join PySem.F.type_str_join mt_join pw paw)
    (hs2 : starEach [e] X.env = (false, eval e X.env) :: starEach [] X.env := by rfl) : Ev X H0 ρ (.Call (.Attribute o "join" pa) [e] [] p1) (.str (Txt.join a ys)) := fun σ G H sg sh en Q q => by
  refine wE_of pe (ho σ G H sg sh en _ fun v G1 H1 f1 r1 => ?_)
  cases r1
  refine ⟨rfl, a_cons h a_nil hs2 σ G1 H1 (sg.trans f1.g) f1.s (en.up f1.g) _ fun ws G2 H2 f2 r2 => ?_⟩
  cases r2 with
  | cons r2 r3 =>
    cases r3
    obtain ⟨l, vs, rfl, hs, r⟩ := r2.lst_of
    obtain rfl := r.strs_of
    exact ⟨a, l, ys, rfl, rfl, .inl (SqL.of (f2.s _ _ hs)), hz, q _ _ _ (f1.trans f2) (.str _)⟩
/-- text.split(sep) -/
theorem l_splitS {a b : Str} (ho : Ev X H0 ρ o (.str a)) (h : Ev X H0 ρ e (.str b)) (hb : (b.length == 0) = false) (hz : a.length + 2 ≤ sizeLine)
    (pe : PE X (.Call (.Attribute o "split" pa) [e] [] p1) (tBM X.K "str" (fun x xs H Q => ∃ a b, x = .str a ∧ xs = [.str b] ∧ (b.length == 0) = false ∧ a.length + 2 ≤ sizeLine ∧ rNewStrs (Txt.split a b) H Q) (wE X o) (wA X [e])) := by exact pe_bm PySem.F.plainAttrs_str PySem.F.slot_str_split PySem.F.type_str_split mt_split pw paw)
    (hs2 : starEach [e] X.env = (false, eval e X.env) :: starEach [] X.env := by rfl) : EvL X H0 ρ (.Call (.Attribute o "split" pa) [e] [] p1) ((Txt.split a b).map D.str) := fun σ G H sg sh en Q q => by
  refine wE_of pe (ho σ G H sg sh en _ fun v G1 H1 f1 r1 => ?_)
  cases r1
  refine ⟨rfl, a_cons h a_nil hs2 σ G1 H1 (sg.trans f1.g) f1.s (en.up f1.g) _ fun ws G2 H2 f2 r2 => ?_⟩
  cases r2 with
  | cons r2 r3 =>
    cases r3
    cases r2
    have f12 := f1.trans f2
    exact ⟨a, b, rfl, rfl, hb, hz, fun l hl => q l _ G2 _ (f12.trans (Fr.newH f12.s hl)) (f12.h.free hl) (f12.s.free hl) upd_same (RpL.strs _)⟩
/-- str(int), int(text), len(text) -/
theorem e_strI {i : Int} (B : Blt X.mg) (h : Ev X H0 ρ e (.int i)) (hi : i.natAbs.log2 < 1920) (hg : Gl X "str" := by rfl) (he : starEach [e] X.env = (false, eval e X.env) :: starEach [] X.env := by rfl) (hpl : (backTo pos (starEach [] X.env)).any (·.1) = false := by rfl) :
    Ev X H0 ρ (.Call (.Name "str" p) [e] [] pos) (.str (toString i)) := e_callT call_str_int B.str_ (a_cons h a_nil he) (fun vs G H sg sh r Q q => by
    cases r with
    | cons r1 r2 =>
      cases r2
      obtain rfl := r1.int_of
      exact ⟨i, rfl, hi, q _ _ _ (Fr.refl sh) (.str _)⟩) (by decide +kernel) hg (by decide) (by decide) he hpl
theorem e_intS {a : Str} {n : Int} (B : Blt X.mg) (h : Ev X H0 ρ e (.str a)) (hn : PySem.intText? a = some n) (hl : a.length ≤ 640) (hg : Gl X "int" := by rfl) (he : starEach [e] X.env = (false, eval e X.env) :: starEach [] X.env := by rfl) (hpl : (backTo pos (starEach [] X.env)).any (·.1) = false := by rfl) :
    Ev X H0 ρ (.Call (.Name "int" p) [e] [] pos) (.int n) := e_callT call_int_str B.int_ (a_cons h a_nil he) (fun vs G H sg sh r Q q => by
    cases r with
    | cons r1 r2 =>
      cases r2
      cases r1
      exact ⟨a, n, rfl, hn, hl, q _ _ _ (Fr.refl sh) (.int _)⟩) (by decide +kernel) hg (by decide) (by decide) he hpl
theorem e_lenS {a : Str} (B : Blt X.mg) (h : Ev X H0 ρ e (.str a)) (hl : a.length ≤ sizeLine) (hg : Gl X "len" := by rfl) (he : starEach [e] X.env = (false, eval e X.env) :: starEach [] X.env := by rfl) (hpl : (backTo pos (starEach [] X.env)).any (·.1) = false := by rfl) :
    Ev X H0 ρ (.Call (.Name "len" p) [e] [] pos) (.int a.length) := e_callB call_len_str B.len_ (a_cons h a_nil he) (fun vs G H sg sh r Q q => by
    cases r with
    | cons r1 r2 =>
      cases r2
      cases r1
      exact ⟨a, rfl, hl, q _ _ _ (Fr.refl sh) (.int _)⟩) (by decide +kernel) hg (by decide) (by decide) he hpl
/-- the signs of a text, in turn -/
def signs (a : Str) : List Str := a.cps.toList.map fun c => ⟨#[c]⟩
theorem i_str {a : Str} (h : Ev X H0 ρ e (.str a)) : EvI X H0 ρ e ((signs a).map D.str) := by
  refine ⟨iStr (wE X e), fun tg => pi_str pw, fun σ G H sg sh en R q => h σ G H sg sh en _ fun v G1 H1 f1 r1 => ?_⟩
  cases r1
  have hlen : ((signs a).map D.str).length = a.cps.size := by
    unfold signs
    rw [List.length_map, List.length_map, Array.length_toList]
  refine ⟨a, rfl, q _ G1 H1 f1 fun i G2 H2 s12 s2 => ⟨fun hl => by rw [hlen] at hl; exact hl, fun d hd => ?_⟩⟩
  have hi : i < a.cps.size := by
    have := (List.getElem?_eq_some_iff.mp hd).1
    rwa [hlen] at this
  refine ⟨hi, fun x H3 y => ?_⟩
  obtain ⟨e1, c, e2, e3⟩ := y
  refine ⟨G2, by rw [e1]; exact Fr.refl s2, ?_⟩
  unfold signs at hd
  rw [List.getElem?_map, List.getElem?_map, Array.getElem?_toList, e2] at hd
  cases hd
  rw [e3]
  exact .str _
/-- l[1:] -/
theorem cutV_tail (xs : List V) : cutV xs (some 1) none = xs.drop 1 := by
  unfold cutV
  have e : HT.sIx xs.length 0 (some (1 : Int)) = min 1 xs.length := by
    have := HT.sIx_nat xs.length 0 1
    exact this
  rw [HT.sIx_none, e]
  cases xs with
  | nil => rfl
  | cons x xs =>
    rw [List.length_cons, Nat.min_eq_left (by omega)]
    exact List.take_of_length_le (by rw [List.length_drop, List.length_cons]; omega)
theorem RpL.tail1 {K : PySem.W.Frag} {H : Hp} : ∀ {vs : List V} {ds : List D}, RpL K H vs ds → RpL K H (vs.drop 1) (ds.drop 1)
  | _, _, .nil => .nil
  | _, _, .cons _ t => t
theorem l_tail {ds : List D} {j : Nat} {p2 p3 : Pos} (h : Ev X H0 ρ e (.lst ds)) : EvL X H0 ρ (.Subscript e (.Slice (some (.Constant (.int 1) j p2)) none none p3) pos) (ds.drop 1) := fun σ G H sg sh en Q q =>
  wE_of (pe_slice sl_list pw (po_some pe_int) po_none) (h σ G H sg sh en _ fun x G1 H1 f1 r1 => by
    obtain ⟨a, xs, rfl, hs, r⟩ := r1.lst_of
    refine ⟨1, rfl, a, xs, rfl, SqL.of (f1.s _ _ hs), fun p hp => ?_⟩
    rw [cutV_tail]
    have f2 := Fr.newH (o := .lst (xs.drop 1)) f1.s hp
    exact q p _ G1 _ (f1.trans f2) (f1.h.free hp) (f1.s.free hp) upd_same r.tail1)
end
end G9

/-! Layer R: text.replace of written texts, where a token is out; text * number. -/
namespace G9
open PySem PySem.Spec PyProof.Rows L2 G9S
def rMulS : R2 := fun x y H Q => ∃ z i, x = .str z ∧ y = .int i ∧ z.length ≤ 16 ∧ 0 ≤ i ∧ i ≤ 1048576 ∧ Q (.str (Txt.mul z i)) H
theorem op_mulS {X : Cx} : OpR X (binaryOp .Mult) rMulS := by
  intro pins s σ H x y v u Q I rx ry h
  obtain ⟨z, i, rfl, rfl, hz, h1, h2, q⟩ := h
  obtain ⟨t, rfl⟩ := rx
  obtain ⟨t', rfl⟩ := ry
  exact PySem.W.KXi.mul rfl hz (by omega) (by omega) fun t' k _ _ => ⟨.str (Txt.mul z i), H, I.tok k, ⟨t', rfl⟩, q⟩
theorem rd_mulS {K : PySem.W.Frag} {H0 : Hp} {z : Str} {i : Int} (hz : z.length ≤ 16) (h0 : 0 ≤ i) (h1 : i ≤ 1048576) : Rd2 K H0 rMulS (.str z) (.int i) (.str (Txt.mul z i)) := fun x y G H _ s rx ry Q q => by
  cases rx
  cases ry
  exact ⟨z, i, rfl, rfl, hz, h0, h1, q _ _ _ (Fr.refl s) (.str _)⟩
section
variable {X : Cx} {H0 : Hp} {ρ : Ro} {e a : Expr} {es : List Expr} {d : D} {ds : List D} {pos p : Pos}
def wE1 (X : Cx) (e : Expr) : TE := fun σ H Q => ∀ (pins : List (Addr × Obj)) (s : Shared), 1 ≤ s.toks → Inv X pins σ H s → wpAny (model X.prog X.w) X.A (eval e X.env) (EP X pins σ Q) X.xe s
def wA1 (X : Cx) (es : List Expr) : TA := fun σ H Q => ∀ (pos : Pos) (pins : List (Addr × Obj)) (s : Shared), 1 ≤ s.toks → Inv X pins σ H s → wpAny (model X.prog X.w) X.A (spliced (backTo pos (starEach es X.env))) (AP X pins σ Q) X.xe s
theorem pw1 : L2.PET X e (wE1 X e) := fun pins s _ _ _ h0 I h => h pins s h0 I
theorem paw1 : L2.PAT X es (wA1 X es) := fun pos pins s _ _ _ h0 I h => h pos pins s h0 I
theorem wE1_of {t : TE} {σ : L2.St} {H : Hp} {Q : VK} (p : L2.PET X e t) (h : t σ H Q) : wE1 X e σ H Q := fun pins s h0 I => p pins s σ H Q h0 I h
theorem wA1_of {t : TA} {σ : L2.St} {H : Hp} {Q : List V → Hp → Prop} (p : L2.PAT X es t) (h : t σ H Q) : wA1 X es σ H Q := fun pos pins s h0 I => p pos pins s σ H Q h0 I h
def Ev1 (X : Cx) (H0 : Hp) (ρ : Ro) (e : Expr) (d : D) : Prop := ∀ (σ : L2.St) (G H : Hp), Same H0 G → Same G H → En X.K G σ ρ → ∀ Q : VK, (∀ v G' H', Fr G H G' H' → Rp X.K G' v d → Q v H') → wE1 X e σ H Q
def EvA1 (X : Cx) (H0 : Hp) (ρ : Ro) (es : List Expr) (ds : List D) : Prop := ∀ (σ : L2.St) (G H : Hp), Same H0 G → Same G H → En X.K G σ ρ → ∀ Q : List V → Hp → Prop, (∀ vs G' H', Fr G H G' H' → RpL X.K G' vs ds → Q vs H') → wA1 X es σ H Q
theorem Ev.one (h : Ev X H0 ρ e d) : Ev1 X H0 ρ e d := fun σ G H sg sh en Q q pins s _ I => h σ G H sg sh en Q q pins s I
theorem EvA.one (h : EvA X H0 ρ es ds) : EvA1 X H0 ρ es ds := fun σ G H sg sh en Q q pos pins s _ I => h σ G H sg sh en Q q pos pins s I
theorem a1_cons (ha : Ev1 X H0 ρ e d) (hr : EvA1 X H0 ρ es ds) (hs : starEach (e :: es) X.env = (false, eval e X.env) :: starEach es X.env := by rfl) : EvA1 X H0 ρ (e :: es) (d :: ds) := fun σ G H sg sh en Q q =>
  wA1_of (L2.pat_cons pw1 paw1 hs) (ha σ G H sg sh en _ fun v G1 H1 f1 r1 => hr σ G1 H1 (sg.trans f1.g) f1.s (en.up f1.g) _ fun vs G2 H2 f2 r2 => q _ G2 H2 (f1.trans f2) (.cons (r1.up f2.g) r2))
/-- text.replace(y, z) -/
theorem e1_repl {o : Expr} {x y z : Str} {j k : Nat} {c0 c1 apos : Pos} (ho : Ev X H0 ρ o (.str x)) (hz : x.length + (x.length + 1) * z.length ≤ 16777216) (hyz : (y == z) = false := by decide)
    (hst : starEach [.Constant (.str y) j c0, .Constant (.str z) k c1] X.env = [(false, eval (.Constant (.str y) j c0) X.env), (false, eval (.Constant (.str z) k c1) X.env)] := by rfl)
    (hbase : attributeBase o "replace" X.env (eval o X.env) = eval o X.env := by rfl) (hline : (apos.endLine == pos.line) = true := by rfl) :
    Ev1 X H0 ρ (.Call (.Attribute o "replace" apos) [.Constant (.str y) j c0, .Constant (.str z) k c1] [] pos) (.str (Txt.replace x y z)) := fun σ G H sg sh en Q q =>
  wE1_of (CwR.pet_replC pw hyz hst hbase hline) (ho σ G H sg sh en _ fun v G1 H1 f1 r1 => by
    cases r1
    exact ⟨x, rfl, hz, q _ _ _ f1 (.str _)⟩)
/-- [a + 'text', ..]: a token is out behind the first -/
theorem a_consK {x t : Str} {j : Nat} {pc pb : Pos} (ha : Ev X H0 ρ a (.str x)) (hz : x.length + t.length ≤ sizeLine) (hr : EvA1 X H0 ρ es ds) (hs : starEach (.BinOp a .Add (.Constant (.str t) j pc) pb :: es) X.env = (false, eval (.BinOp a .Add (.Constant (.str t) j pc) pb) X.env) :: starEach es X.env := by rfl) :
    EvA X H0 ρ (.BinOp a .Add (.Constant (.str t) j pc) pb :: es) (.str (x ++ t) :: ds) := fun σ G H sg sh en Q q pos pins s I => by
  rw [hs]
  show wpAny _ _ (spliced ((false, eval (.BinOp a .Add (.Constant (.str t) j pc) pb) X.env) :: backTo pos (starEach es X.env))) _ _ s
  refine Calls.spliced_cons (wpAny_BinOp ?_)
  refine thn (ha σ G H sg sh en (fun v H1 => ∃ G1, Fr G H G1 H1 ∧ v = .str x) (fun v G1 H1 f1 r1 => ⟨G1, f1, by cases r1; rfl⟩) pins s I) fun v s1 ⟨x1, H1, I1, r1, G1, f1, e1⟩ => ?_
  subst e1
  refine Calls.Constant_str ?_
  obtain ⟨tk, rfl⟩ := r1
  have I2 : Inv X pins σ H1 { s1 with toks := s1.toks + 1 } := I1.tok _
  refine wpAny_mono (PySem.wpAny_toks (op_add_str pins { s1 with toks := s1.toks + 1 } σ H1 (.str x) (.str t) (.str x tk) (.str t s1.toks) (fun v H2 => v = .str (x ++ t) ∧ H2 = H1) I2 ⟨tk, rfl⟩ ⟨_, rfl⟩ ⟨x, t, rfl, rfl, hz, rfl, rfl⟩)) (fun v s2 q2 => ?_) fun _ _ z => z.2
  obtain ⟨hk, x2, H2, I3, r2, e2, e3⟩ := q2
  subst e2
  subst e3
  have hk : s1.toks + 1 ≤ s2.toks := hk
  refine thn (hr σ G1 H2 (sg.trans f1.g) f1.s (en.up f1.g) (fun vs H4 => ∃ G4, Fr G1 H2 G4 H4 ∧ RpL X.K G4 vs ds) (fun vs G4 H4 f4 r4 => ⟨G4, f4, r4⟩) pos pins s2 (by omega) I3) fun us s3 ⟨xs, H4, I4, r4, G4, f4, r5⟩ => ⟨.str (x ++ t) :: xs, H4, I4, .cons r2 r4, q _ G4 H4 (f1.trans f4) (.cons (.str _) r5)⟩
end
end G9

namespace G9
open PySem PySem.Spec PyProof.Rows L2 G9S
def topS (i : Nat) : Stmt := PySem.Challenge.pw_pickcones_k10_errors_apart.main.body.getD i (.Pass ⟨0, 0, 0, 0⟩)
abbrev s_wall : Stmt := topS 0
abbrev s_is_whole : Stmt := topS 13
abbrev s_is_set : Stmt := topS 14
abbrev s_within : Stmt := topS 15
abbrev s_is_family : Stmt := topS 16
abbrev s_need_family : Stmt := topS 17
abbrev s_may_be : Stmt := topS 18
abbrev s_subsets_of : Stmt := topS 19
abbrev s_all_sets_of : Stmt := topS 20
abbrev s_greatest_in : Stmt := topS 21
abbrev s_renamed : Stmt := topS 22
abbrev s_is_plain : Stmt := topS 23
abbrev s_orders_of : Stmt := topS 24
abbrev s_form : Stmt := topS 25
abbrev s_Basket_init : Stmt := inClass (topS 27) 0
abbrev s_Basket_picked : Stmt := inClass (topS 27) 1
abbrev s_Basket_free : Stmt := inClass (topS 27) 2
abbrev s_Basket_take : Stmt := inClass (topS 27) 3
abbrev s_Basket_leave : Stmt := inClass (topS 27) 4
abbrev s_Basket_undo : Stmt := inClass (topS 27) 5
abbrev s_Basket_redo : Stmt := inClass (topS 27) 6
abbrev s_Basket_len : Stmt := inClass (topS 27) 7
abbrev s_Basket_eq : Stmt := inClass (topS 27) 8
abbrev s_divisor : Stmt := topS 29
abbrev s_point_for : Stmt := topS 30
abbrev s_unit_row : Stmt := topS 31
abbrev s_Peak_init : Stmt := inClass (topS 32) 0
abbrev s_Peak_settle : Stmt := inClass (topS 32) 1
abbrev s_Peak_point : Stmt := inClass (topS 32) 2
abbrev s_Peak_row_for : Stmt := inClass (topS 32) 3
abbrev s_is_rule_for : Stmt := topS 36
abbrev s_need_rule : Stmt := topS 37
abbrev s_is_worths_for : Stmt := topS 38
abbrev s_need_worths : Stmt := topS 39
abbrev s_set_row : Stmt := topS 40
abbrev s_begin_of : Stmt := topS 41
abbrev s_looked_at : Stmt := topS 42
abbrev s_exchanges_of : Stmt := topS 43
abbrev s_swap_choices : Stmt := topS 44
abbrev s_choices_of : Stmt := topS 45
abbrev s_worth : Stmt := topS 46
abbrev s_picked_by : Stmt := topS 47
abbrev s_pick : Stmt := topS 48
abbrev s_minus : Stmt := topS 50
abbrev s_choice_conditions : Stmt := topS 51
abbrev s_cones_of : Stmt := topS 52
abbrev s_best_of : Stmt := topS 54
abbrev s_best_set : Stmt := topS 55
abbrev s_need_easy : Stmt := topS 56
abbrev s_is_share : Stmt := topS 57
abbrev s_low_worths : Stmt := topS 58
abbrev s_are_apart : Stmt := topS 60
abbrev s_families_of : Stmt := topS 61
abbrev s_tables_of : Stmt := topS 65
abbrev s_first_small : Stmt := topS 66
abbrev s_is_less : Stmt := topS 67
abbrev s_less_conditions : Stmt := topS 68
abbrev s_is_never : Stmt := topS 69
abbrev s_need_all : Stmt := topS 70
abbrev s_alike : Stmt := topS 71
abbrev s_written : Stmt := topS 73
abbrev s_parse_family : Stmt := topS 74
abbrev s_law_cell : Stmt := topS 76
abbrev s_law_drawn : Stmt := topS 77
abbrev s_law_roll : Stmt := topS 78
abbrev s_law_rounds : Stmt := topS 79
abbrev s_law_met : Stmt := topS 80
abbrev s_law_alone : Stmt := topS 81
abbrev s_law : Stmt := topS 82
end G9
namespace G9
open PySem PySem.Spec PyProof.Rows L2 G9S
def wholeD (d : D) (lo hi : Int) : Bool := match d with
  | .int i => decide (lo ≤ i) && decide (i ≤ hi)
  | _ => false
def R_is_whole (ds : List D) (d : D) : Prop := ∃ v lo hi, v.tyS ≠ none ∧ ds = [v, .int lo, .int hi] ∧ d = .bl (wholeD v lo hi)
section
variable {P : Program} {w : World} {K : PySem.W.Frag} {mg : Str → Option Value} {base : Heap}
/-! ### is_whole -/
theorem sc_is_whole : FnScope ["value", "low", "high"] ["value", "low", "high"] (defScope s_is_whole) := ⟨rfl, rfl, rfl, by decide +kernel, rfl, by decide +kernel, by decide +kernel⟩
theorem ok_is_whole {f : Addr} {fd : FuncData} (F : Fun K "is_whole" "is_whole" s_is_whole f fd) (B : Blt mg) : FnOk P w K mg base CX0 1 f fd ["value", "low", "high"] (spR K R_is_whole) := by
  refine okD F sc_is_whole (fun ds d h => by obtain ⟨v, lo, hi, _, rfl, _⟩ := h; rfl) fun cdv A outer s H G E σ ds d Q hr hR sh en q => ?_
  obtain ⟨v, lo, hi, hv, rfl, rfl⟩ := hR
  have hN := sc_is_whole.nd
  cases v with
  | int i => exact s_ret ((e_and (e_isi "int" (t := "int") (k := true) B (e_v 0) rfl (by decide +kernel) B.int_) fun _ => e_and (e_not (e_isi "bool" (t := "int") (k := false) B (e_v 0) rfl (by decide +kernel) B.bool_)) fun _ => e_one (e_chain (pe_chain op_le op_le pw pw pw) (e_v 1) (e_v 0) rd_b (fun _ => e_v 2) fun _ => rd_b)).is (by simp [wholeD])) same_nil sh en q
  | bl b => exact s_ret ((e_and (l := false) (e_isi "int" (t := "bool") (k := true) B (e_v 0) rfl (by decide +kernel) B.int_) fun _ => e_and (l := false) (e_not (e_isi "bool" (t := "bool") (k := true) B (e_v 0) rfl (by decide +kernel) B.bool_)) fun h => nomatch h).is (by simp [wholeD])) same_nil sh en q
  | non => exact s_ret ((e_and (l := false) (e_isi "int" (t := "NoneType") (k := false) B (e_v 0) rfl (by decide +kernel) B.int_) fun h => nomatch h).is (by simp [wholeD])) same_nil sh en q
  | str x => exact s_ret ((e_and (l := false) (e_isi "int" (t := "str") (k := false) B (e_v 0) rfl (by decide +kernel) B.int_) fun h => nomatch h).is (by simp [wholeD])) same_nil sh en q
  | tup x => exact s_ret ((e_and (l := false) (e_isi "int" (t := "tuple") (k := false) B (e_v 0) rfl (by decide +kernel) B.int_) fun h => nomatch h).is (by simp [wholeD])) same_nil sh en q
  | lst x => exact s_ret ((e_and (l := false) (e_isi "int" (t := "list") (k := false) B (e_v 0) rfl (by decide +kernel) B.int_) fun h => nomatch h).is (by simp [wholeD])) same_nil sh en q
  | ref a => exact absurd rfl hv
  | ty a => exact absurd rfl hv
/-! ### within -/
def subB (a b : List Int) : Bool := a.all fun x => b.contains x
def R_within (ds : List D) (d : D) : Prop := ∃ a b : List Int, a.length ≤ 1000 ∧ ds = [dS a, dS b] ∧ d = .bl (subB a b)
theorem sc_within : FnScope ["one", "other", "thing"] ["one", "other"] (defScope s_within) := ⟨rfl, rfl, rfl, by decide +kernel, rfl, by decide +kernel, by decide +kernel⟩
theorem ok_within {f : Addr} {fd : FuncData} (F : Fun K "within" "within" s_within f fd) (B : Blt mg) : FnOk P w K mg base CX0 1 f fd ["one", "other"] (spR K R_within) := by
  refine okD F sc_within (fun ds d h => by obtain ⟨a, b, _, rfl, _⟩ := h; rfl) fun cdv A outer s H G E σ ds d Q hr hR sh en q => ?_
  obtain ⟨a, b, ha, rfl, rfl⟩ := hR
  have hN := sc_within.nd
  exact s_ret (e_all B (l_lc 2 (c_map D.int a (fun x => D.bl (b.contains x)) 2 (i_tup (e_v 0)) (by omega) fun x hx _ _ _ _ _ => e_cmp op_in_seq (e_v 2) (e_v 1) rd_inT))) same_nil sh en q
/-! ### may_be -/
def mayB (f : List (List Int)) (s : List Int) : Bool := f.any fun o => subB s o
def R_may_be (ds : List D) (d : D) : Prop := ∃ (n : Int) (f : List (List Int)) (s : List Int), f.length ≤ 1000 ∧ s.length ≤ 1000 ∧ ds = [dFam n f, dS s] ∧ d = .bl (mayB f s)
theorem sc_may_be : FnScope ["family", "some", "one"] ["family", "some"] (defScope s_may_be) := ⟨rfl, rfl, rfl, by decide +kernel, rfl, by decide +kernel, by decide +kernel⟩
theorem ok_may_be {f : Addr} {fd : FuncData} (F : Fun K "may_be" "may_be" s_may_be f fd) (B : Blt mg) (F1 : Fn P w K mg base "within" 1 (spR K R_within)) : FnOk P w K mg base CX0 2 f fd ["family", "some"] (spR K R_may_be) := by
  refine okD F sc_may_be (fun ds d h => by obtain ⟨n, f, s, _, _, rfl, _⟩ := h; rfl) fun cdv A outer s H G E σ ds d Q hr hR sh en q => ?_
  obtain ⟨n, fs, ss, hf, hs, rfl, rfl⟩ := hR
  have hN := sc_may_be.nd
  exact s_ret (e_any B (l_lc 2 (c_map dS fs (fun o => D.bl (subB ss o)) 2 (i_tup (e_at (e_v 0) rfl)) (by omega) fun x hx _ _ _ _ _ => e_call F1 hr (a_cons (e_v 1) (a_cons (e_v 2) a_nil)) ⟨ss, x, hs, rfl, rfl⟩))) same_nil sh en q
/-! ### greatest_in -/
def topB (f : List (List Int)) (o : List Int) : Bool := !(f.any fun p => !decide (o = p) && subB o p)
def greatestIn (f : List (List Int)) : List (List Int) := usort HT.lexLt (f.filter (topB f))
def R_greatest_in (ds : List D) (d : D) : Prop := ∃ (src : D) (f : List (List Int)), (src = dF f ∨ src = .lst (f.map dS)) ∧ f.length < 64 ∧ (∀ o ∈ f, o.length ≤ 1000) ∧ ds = [src] ∧ d = dF (greatestIn f)
theorem sc_greatest_in : FnScope ["sets", "found", "one", "other"] ["sets"] (defScope s_greatest_in) := ⟨rfl, rfl, rfl, by decide +kernel, rfl, by decide +kernel, by decide +kernel⟩
theorem ok_greatest_in {f : Addr} {fd : FuncData} (F : Fun K "greatest_in" "greatest_in" s_greatest_in f fd) (B : Blt mg) (F1 : Fn P w K mg base "within" 1 (spR K R_within)) : FnOk P w K mg base CX0 2 f fd ["sets"] (spR K R_greatest_in) := by
  refine okD F sc_greatest_in (fun ds d h => by obtain ⟨_, _, _, _, _, rfl, _⟩ := h; rfl) fun cdv A outer s H G E σ ds d Q hr hR sh en q => ?_
  obtain ⟨src, fs, hsrc, hf, ho, rfl, rfl⟩ := hR
  have hN := sc_greatest_in.nd
  have it : ∀ {X : Cx} {H0 : Hp} {ρ : Ro} {e : Expr}, Ev X H0 ρ e src → EvI X H0 ρ e (fs.map dS) := fun h => by
    rcases hsrc with rfl | rfl
    · exact i_tup h
    · exact i_lst h
  refine s_asgV 1 2 (c_fil dS fs (topB fs) 2 (it (e_v 0)) (by omega) fun x hx _ _ _ _ _ => t_not (t_val (e_any B (l_lc 3 (c_map dS fs (fun p => D.bl (!decide (x = p) && subB x p)) 3 (it (e_v 0)) (by omega) fun y hy _ _ _ _ _ => ?_))))) same_nil sh en fun σ1 G1 H1 f1 en1 => ?_
  · exact (e_and (e_neD hr.units (e_v 2) (e_v 3) (sh_dS (n := 0) _) (sh_dS (n := 0) _)) fun _ => e_one (e_call F1 hr (a_cons (e_v 2) (a_cons (e_v 3) a_nil)) ⟨x, y, ho x hx, rfl, rfl⟩)).is (by rw [eqv_dS])
  · refine s_ret (e_tuple B (l_sortSetLT hr.units B.sorted_ B.set_ (e_v 1) ?_).ev) same_nil f1.s en1 fun v G2 H2 f2 r2 => q v G2 H2 (f1.trans f2) r2
    exact Nat.lt_of_le_of_lt (List.length_filter_le _ _) hf
/-! ### is_set -/
def intsD (ds : List D) : List Int := ds.map fun d => match d with
  | .int i => i
  | _ => 0
theorem intsD_map : ∀ ns : List Int, intsD (ns.map D.int) = ns
  | [] => rfl
  | n :: ns => by
    have ih := intsD_map ns
    unfold intsD at ih ⊢
    rw [List.map_cons, List.map_cons, ih]
def isSetD (d : D) (n : Int) : Bool := match d with
  | .tup ds => (ds.all fun x => wholeD x 0 (n - 1)) && decide (intsD ds = usort ltI (intsD ds))
  | _ => false
def R_is_set (ds : List D) (d : D) : Prop := ∃ (v : D) (n : Int) (m : Nat), Sm m v ∧ ds = [v, .int n] ∧ d = .bl (isSetD v n)
theorem sc_is_set : FnScope ["value", "things", "one"] ["value", "things"] (defScope s_is_set) := ⟨rfl, rfl, rfl, by decide +kernel, rfl, by decide +kernel, by decide +kernel⟩
theorem whole_int {d : D} {lo hi : Int} (h : wholeD d lo hi = true) : ∃ i, d = .int i ∧ lo ≤ i ∧ i ≤ hi := by
  cases d with
  | int i =>
    rw [wholeD, Bool.and_eq_true] at h
    exact ⟨i, rfl, of_decide_eq_true h.1, of_decide_eq_true h.2⟩
  | _ => cases h
theorem all_ints {ds : List D} {lo hi : Int} (h : (ds.all fun x => wholeD x lo hi) = true) : ds = (intsD ds).map D.int := by
  induction ds with
  | nil => rfl
  | cons d ds ih =>
    rw [List.all_cons, Bool.and_eq_true] at h
    obtain ⟨i, rfl, _⟩ := whole_int h.1
    have e := ih h.2
    unfold intsD at e ⊢
    rw [List.map_cons, List.map_cons, ← e]
theorem ok_is_set {f : Addr} {fd : FuncData} (F : Fun K "is_set" "is_set" s_is_set f fd) (B : Blt mg) (F1 : Fn P w K mg base "is_whole" 1 (spR K R_is_whole)) : FnOk P w K mg base CX0 2 f fd ["value", "things"] (spR K R_is_set) := by
  refine okD F sc_is_set (fun ds d h => by obtain ⟨v, n, _, _, rfl, _⟩ := h; rfl) fun cdv A outer s H G E σ ds d Q hr hR sh en q => ?_
  obtain ⟨v, n, m, hv, rfl, rfl⟩ := hR
  have hN := sc_is_set.nd
  cases v with
  | tup ds =>
    obtain ⟨m, rfl, hv2⟩ := hv.tup_inv
    refine s_when (b := !(ds.all fun x => wholeD x 0 (n - 1))) ((t_or2 (t_not (t_val (e_isi "tuple" (t := "tuple") (k := true) B (e_v 0) rfl (by decide +kernel) B.tuple_))) fun _ => t_not (t_val (e_all B (l_lc 2 (c_map id ds (fun x => D.bl (wholeD x 0 (n - 1))) 2 ((i_tup (e_v 0)).is (by simp)) (by have := hv2.1; omega)
      fun x hx _ _ _ _ _ => e_call F1 hr (a_cons (e_v 2) (a_cons e_int (a_cons (e_op op_sub (e_v 1) e_int rd_i) a_nil))) ⟨x, 0, n - 1, (hv2.2 x hx).ty, rfl, rfl⟩))))).is (by simp)) same_nil sh en (fun hb G1 H1 f1 en1 => ?_) fun hb G1 H1 f1 en1 => ?_
    · refine s_ret e_bl same_nil f1.s en1 fun v G2 H2 f2 r2 => q v G2 H2 (f1.trans f2) ?_
      have e : isSetD (.tup ds) n = false := by
        rw [Bool.not_eq_true'] at hb
        rw [isSetD, hb, Bool.false_and]
      rw [e]
      exact r2
    · have hb : (ds.all fun x => wholeD x 0 (n - 1)) = true := by simpa using hb
      have e1 := all_ints hb
      have hl : (intsD ds).length < 64 := by
        have := hv2.1
        unfold intsD
        rw [List.length_map]
        exact this
      have ev0 : ∀ {X : Cx} {H0 : Hp} {ρ : Ro} {e : Expr}, Ev X H0 ρ e (.tup ds) → Ev X H0 ρ e (dS (intsD ds)) := fun h => h.is (congrArg D.tup e1)
      refine s_ret ((e_eqD hr.units (l_listT B (ev0 (e_v 0))).ev (l_sortSetTI B.sorted_ B.set_ (ev0 (e_v 0)) hl).ev (sh_lS (n := 0) _) (sh_lS (n := 0) _)).is ?_) same_nil f1.s en1 fun v G2 H2 f2 r2 => q v G2 H2 (f1.trans f2) r2
      rw [eqv_lS, isSetD, hb, Bool.true_and]
  | int i => exact s_when (b := true) ((t_or2 (l := false) (t_not (t_val (e_isi "tuple" (t := "int") (k := false) B (e_v 0) rfl (by decide +kernel) B.tuple_))) fun h => nomatch h).is (by simp)) same_nil sh en (fun hb G1 H1 f1 en1 => s_ret e_bl same_nil f1.s en1 fun v G2 H2 f2 r2 => q v G2 H2 (f1.trans f2) r2) fun hb => nomatch hb
  | bl i => exact s_when (b := true) ((t_or2 (l := false) (t_not (t_val (e_isi "tuple" (t := "bool") (k := false) B (e_v 0) rfl (by decide +kernel) B.tuple_))) fun h => nomatch h).is (by simp)) same_nil sh en (fun hb G1 H1 f1 en1 => s_ret e_bl same_nil f1.s en1 fun v G2 H2 f2 r2 => q v G2 H2 (f1.trans f2) r2) fun hb => nomatch hb
  | str i => exact s_when (b := true) ((t_or2 (l := false) (t_not (t_val (e_isi "tuple" (t := "str") (k := false) B (e_v 0) rfl (by decide +kernel) B.tuple_))) fun h => nomatch h).is (by simp)) same_nil sh en (fun hb G1 H1 f1 en1 => s_ret e_bl same_nil f1.s en1 fun v G2 H2 f2 r2 => q v G2 H2 (f1.trans f2) r2) fun hb => nomatch hb
  | non => exact s_when (b := true) ((t_or2 (l := false) (t_not (t_val (e_isi "tuple" (t := "NoneType") (k := false) B (e_v 0) rfl (by decide +kernel) B.tuple_))) fun h => nomatch h).is (by simp)) same_nil sh en (fun hb G1 H1 f1 en1 => s_ret e_bl same_nil f1.s en1 fun v G2 H2 f2 r2 => q v G2 H2 (f1.trans f2) r2) fun hb => nomatch hb
  | lst i => exact s_when (b := true) ((t_or2 (l := false) (t_not (t_val (e_isi "tuple" (t := "list") (k := false) B (e_v 0) rfl (by decide +kernel) B.tuple_))) fun h => nomatch h).is (by simp)) same_nil sh en (fun hb G1 H1 f1 en1 => s_ret e_bl same_nil f1.s en1 fun v G2 H2 f2 r2 => q v G2 H2 (f1.trans f2) r2) fun hb => nomatch hb
  | ref a => exact absurd rfl hv.ty
  | ty a => exact absurd rfl hv.ty
/-! ### is_family -/
def setsD (ds : List D) : List (List Int) := ds.map fun d => match d with
  | .tup es => intsD es
  | _ => []
def isFam (n : Int) (f : List (List Int)) : Bool := decide (f = usort HT.lexLt f) && decide (greatestIn f = f) && ((List.range n.toNat).all fun (t : Nat) => f.any fun o => o.contains (t : Int))
def isFamD (d : D) : Bool := match d with
  | .tup [.int n, .tup ds] => (decide (2 ≤ n) && decide (n ≤ 5)) && (!ds.isEmpty && ds.all fun x => isSetD x n) && isFam n (setsD ds)
  | _ => false
def R_is_family (ds : List D) (d : D) : Prop := ∃ (v : D), ((∃ m, m ≤ 60 ∧ Sm m v) ∨ ∃ t, v.tyS = some t ∧ kitB t "tuple" = some false) ∧ ds = [v] ∧ d = .bl (isFamD v)
theorem sc_is_family : FnScope ["value", "things", "sets", "one", "thing"] ["value"] (defScope s_is_family) := ⟨rfl, rfl, rfl, by decide +kernel, rfl, by decide +kernel, by decide +kernel⟩
theorem set_of {d : D} {n : Int} (h : isSetD d n = true) : ∃ s, d = dS s ∧ s = usort ltI s ∧ ∀ x ∈ s, 0 ≤ x ∧ x ≤ n - 1 := by
  cases d with
  | tup ds =>
    rw [isSetD, Bool.and_eq_true] at h
    have e := all_ints h.1
    refine ⟨intsD ds, congrArg D.tup e, of_decide_eq_true h.2, fun x hx => ?_⟩
    have h1 := h.1
    rw [e, List.all_eq_true] at h1
    obtain ⟨i, e2, h2⟩ := whole_int (h1 _ (List.mem_map.mpr ⟨x, hx, rfl⟩))
    cases e2
    exact h2
  | _ => cases h
theorem all_sets {ds : List D} {n : Int} (h : (ds.all fun x => isSetD x n) = true) : ds = (setsD ds).map dS := by
  induction ds with
  | nil => rfl
  | cons d ds ih =>
    rw [List.all_cons, Bool.and_eq_true] at h
    obtain ⟨s, rfl, _⟩ := set_of h.1
    have e := ih h.2
    unfold setsD at e ⊢
    rw [List.map_cons, List.map_cons, ← e]
    show _ = dS (intsD (s.map D.int)) :: _
    rw [intsD_map]
theorem fam_len {ds : List D} (h : ¬ ds.length = 2) : isFamD (.tup ds) = false := by
  unfold isFamD
  split
  · rename_i e
    cases e
    exact absurd rfl h
  · rfl
theorem fam_not {d : D} {t : String} (h : d.tyS = some t) (h2 : kitB t "tuple" = some false) : isFamD d = false := by
  cases d with
  | tup ds =>
    cases h
    exact absurd h2 (by decide +kernel)
  | _ => rfl
theorem ok_is_family {f : Addr} {fd : FuncData} (F : Fun K "is_family" "is_family" s_is_family f fd) (B : Blt mg) (mM : ∃ t, mg "MOST_THINGS" = some (.int 5 t)) (F1 : Fn P w K mg base "is_whole" 1 (spR K R_is_whole)) (F2 : Fn P w K mg base "is_set" 2 (spR K R_is_set)) (F3 : Fn P w K mg base "greatest_in" 2 (spR K R_greatest_in)) :
    FnOk P w K mg base CX0 3 f fd ["value"] (spR K R_is_family) := by
  refine okD F sc_is_family (fun ds d h => by obtain ⟨_, _, rfl, _⟩ := h; rfl) fun cdv A outer s H G E σ ds d Q hr hR sh en q => ?_
  obtain ⟨v, hv, rfl, rfl⟩ := hR
  obtain ⟨tM, mM⟩ := mM
  have hN := sc_is_family.nd
  have no : ∀ {X : Cx} {ρ : Ro} {σ1 : L2.St} {G1 H1 : Hp} {N : Ends} {rest : List Stmt} {j} {pos pos2 : Pos}, isFamD v = false → X.K = K → Fr G H G1 H1 → En X.K G1 σ1 ρ → N.rt = Q → wB X (.Return (some (.Constant (.bool false) j pos)) pos2 :: rest) N σ1 H1 := fun {X ρ σ1 G1 H1 N rest j pos pos2} e1 e2 f1 en1 e3 => by
    refine s_ret e_bl same_nil f1.s en1 fun v G2 H2 f2 r2 => ?_
    rw [e3]
    refine q v G2 H2 (f1.trans f2) ?_
    rw [e1, ← e2]
    exact r2
  rcases hv with ⟨m, hm, hv⟩ | ⟨t, ht, hk⟩
  · by_cases hnt : ∃ ds, v = .tup ds
    · obtain ⟨ds, rfl⟩ := hnt
      obtain ⟨m, rfl, hl, hm2⟩ := hv.tup_inv
      by_cases h2 : ds.length = 2
      · obtain ⟨a, b, rfl⟩ : ∃ a b, ds = [a, b] := by
          match ds, h2 with
          | [a, b], _ => exact ⟨a, b, rfl⟩
        have ha := hm2 a (by simp)
        have hb := hm2 b (by simp)
        refine s_when (b := !wholeD a 2 5) ((t_or3 (t_not (t_val (e_isi "tuple" (t := "tuple") (k := true) B (e_v 0) rfl (by decide +kernel) B.tuple_))) (fun _ => t_cmp op_ne (e_lenT B (e_v 0)) e_int rd_neI) fun _ _ => t_not (t_val (e_call F1 (hr.mono (by decide)) (a_cons (e_at (e_v 0) rfl) (a_cons e_int (a_cons (e_glob (v := .int 5) mM ⟨_, rfl⟩ fun _ => .int 5) a_nil))) ⟨a, 2, 5, ha.ty, rfl, rfl⟩))).is (by simp)) same_nil sh en (fun hw0 G1 H1 f1 en1 => no ?_ rfl f1 en1 rfl) fun hw G1 H1 f1 en1 => ?_
        · have hw0 : wholeD a 2 5 = false := by simpa using hw0
          cases a with
          | int n =>
            rw [wholeD] at hw0
            cases b with
            | tup ds =>
              rw [isFamD, hw0]
              rfl
            | _ => rfl
          | _ => rfl
        · obtain ⟨n, rfl, hn1, hn2⟩ := whole_int (show wholeD a 2 5 = true by simpa using hw)
          refine s_two 1 2 (e_v 0) same_nil f1.s en1 fun σ2 G2 H2 f2 en2 => ?_
          have f12 := f1.trans f2
          by_cases hbt : ∃ es, b = .tup es
          · obtain ⟨es, rfl⟩ := hbt
            obtain ⟨m, rfl, hl3, hm3⟩ := hb.tup_inv
            have eqE : (D.tup es).eqv (D.tup []) = es.isEmpty := by
              unfold D.eqv
              cases es with
              | nil => rfl
              | cons e es => rfl
            refine s_when (b := !(!es.isEmpty && es.all fun x => isSetD x n)) ((t_or3 (t_not (t_val (e_isi "tuple" (t := "tuple") (k := true) B (e_v 2) rfl (by decide +kernel) B.tuple_))) (fun _ => t_eqD hr.units (e_v 2) (e_tup a_nil) hb.sh (Sh.tup (n := 0) (ds := []) (fun d hd => nomatch hd)) (by omega)) fun _ _ => t_not (t_val (e_all B (l_lc 3 (c_map id es (fun x => D.bl (isSetD x n)) 3 ((i_tup (e_v 2)).is (by simp)) (by omega)
              fun x hx _ _ _ _ _ => e_call F2 hr (a_cons (e_v 3) (a_cons (e_v 1) a_nil)) ⟨x, n, _, hm3 x hx, rfl, rfl⟩))))).is (by rw [eqE]; cases es.isEmpty <;> simp)) same_nil f2.s en2 (fun hb G3 H3 f3 en3 => no ?_ rfl (f12.trans f3) en3 rfl) fun hs G3 H3 f3 en3 => ?_
            · rw [Bool.not_eq_true'] at hb
              rw [isFamD, hb, Bool.and_false]
              rfl
            · have hs : (!es.isEmpty && es.all fun x => isSetD x n) = true := by simpa using hs
              have hs2 := (Bool.and_eq_true_iff.mp hs).2
              have e1 := all_sets hs2
              have hlf : (setsD es).length < 64 := by
                unfold setsD
                rw [List.length_map]
                exact hl3
              have evF : ∀ {X : Cx} {H0 : Hp} {ρ : Ro} {e : Expr}, Ev X H0 ρ e (.tup es) → Ev X H0 ρ e (dF (setsD es)) := fun h => h.is (congrArg D.tup e1)
              have hsm : ∀ o ∈ setsD es, o.length ≤ 1000 := fun o ho => by
                have q := hm3 (dS o) (by rw [e1]; exact List.mem_map.mpr ⟨o, ho, rfl⟩)
                obtain ⟨_, _, q, _⟩ := q.tup_inv
                rw [List.length_map] at q
                omega
              have eF : isFamD (.tup [.int n, .tup es]) = isFam n (setsD es) := by
                rw [isFamD, hs, decide_eq_true hn1, decide_eq_true hn2]
                rfl
              refine s_when (b := !(decide (setsD es = usort HT.lexLt (setsD es)) && decide (greatestIn (setsD es) = setsD es))) ((t_or2 (t_neD hr.units (l_listT B (evF (e_v 2))).ev (l_sortSetTT hr.units B.sorted_ B.set_ (evF (e_v 2)) hlf).ev (sh_lF (n := 0) _) (sh_lF (n := 0) _)) fun _ => t_neD hr.units (e_call F3 hr (a_cons (evF (e_v 2)) a_nil) ⟨_, _, .inl rfl, hlf, hsm, rfl, rfl⟩) (evF (e_v 2)) (sh_dF (n := 0) _) (sh_dF (n := 0) _)).is (by rw [eqv_lF, eqv_dF, Bool.not_and])) same_nil f3.s en3
                (fun hb G4 H4 f4 en4 => no ?_ rfl ((f12.trans f3).trans f4) en4 rfl) fun hs4 G4 H4 f4 en4 => ?_
              · rw [Bool.not_eq_true'] at hb
                rw [eF, isFam, hb]
                rfl
              · refine s_ret ((e_all B (l_lc 4 (c_map (fun t : Nat => D.int (t : Int)) (List.range n.toNat) (fun t => D.bl ((setsD es).any fun o => o.contains (t : Int))) 4 (i_range1 B.range_ (e_v 1) (by omega)) (by rw [List.length_range]; omega)
                  fun t ht _ _ _ _ _ => e_any B (l_lc 3 (c_map dS (setsD es) (fun o => D.bl (o.contains (t : Int))) 3 (i_tup (evF (e_v 2))) (by omega) fun o ho _ _ _ _ _ => e_cmp op_in_seq (e_v 4) (e_v 3) rd_inT))))).is ?_) same_nil f4.s en4 fun v G5 H5 f5 r5 => q v G5 H5 (((f12.trans f3).trans f4).trans f5) r5
                rw [eF, isFam, show (decide (setsD es = usort HT.lexLt (setsD es)) && decide (greatestIn (setsD es) = setsD es)) = true by simpa using hs4, Bool.true_and]
          · obtain ⟨t, ht, hk⟩ : ∃ t, b.tyS = some t ∧ kitB t "tuple" = some false := by
              cases hb with
              | non => exact ⟨_, rfl, by decide +kernel⟩
              | bl _ => exact ⟨_, rfl, by decide +kernel⟩
              | int _ => exact ⟨_, rfl, by decide +kernel⟩
              | str _ _ => exact ⟨_, rfl, by decide +kernel⟩
              | lst _ _ => exact ⟨_, rfl, by decide +kernel⟩
              | tup _ _ => exact absurd ⟨_, rfl⟩ hbt
            refine s_when (b := true) ((t_or3 (l := false) (m := false) (t_not (t_val (e_isi "tuple" (t := t) (k := false) B (e_v 2) ht hk B.tuple_))) (fun h => nomatch h) fun h => nomatch h).is (by simp)) same_nil f2.s en2 (fun hb G3 H3 f3 en3 => no ?_ rfl (f12.trans f3) en3 rfl) fun hb => nomatch hb
            cases b with
            | tup es => exact absurd ⟨es, rfl⟩ hbt
            | _ => rfl
      · refine s_when (b := true) ((t_or3 (m := false) (t_not (t_val (e_isi "tuple" (t := "tuple") (k := true) B (e_v 0) rfl (by decide +kernel) B.tuple_))) (fun _ => t_cmp op_ne (e_lenT B (e_v 0)) e_int rd_neI) fun _ h => ?_).is ?_) same_nil sh en (fun hb G1 H1 f1 en1 => no ?_ rfl f1 en1 rfl) fun hb => nomatch hb
        · exact absurd h (by simp; omega)
        · simp
          omega
        · exact fam_len h2
    · obtain ⟨t, ht, hk⟩ : ∃ t, v.tyS = some t ∧ kitB t "tuple" = some false := by
        cases hv with
        | non => exact ⟨_, rfl, by decide +kernel⟩
        | bl _ => exact ⟨_, rfl, by decide +kernel⟩
        | int _ => exact ⟨_, rfl, by decide +kernel⟩
        | str _ _ => exact ⟨_, rfl, by decide +kernel⟩
        | lst _ _ => exact ⟨_, rfl, by decide +kernel⟩
        | tup _ _ => exact absurd ⟨_, rfl⟩ hnt
      exact s_when (b := true) ((t_or3 (l := false) (m := false) (t_not (t_val (e_isi "tuple" (t := t) (k := false) B (e_v 0) ht hk B.tuple_))) (fun h => nomatch h) fun h => nomatch h).is (by simp)) same_nil sh en (fun hb G1 H1 f1 en1 => no (fam_not ht hk) rfl f1 en1 rfl) fun hb => nomatch hb
  · exact s_when (b := true) ((t_or3 (l := false) (m := false) (t_not (t_val (e_isi "tuple" (t := t) (k := false) B (e_v 0) ht hk B.tuple_))) (fun h => nomatch h) fun h => nomatch h).is (by simp)) same_nil sh en (fun hb G1 H1 f1 en1 => no (fam_not ht hk) rfl f1 en1 rfl) fun hb => nomatch hb
end

end G9
namespace G9
open PySem PySem.Spec PyProof.Rows L2 G9S
/-! ### sets and families, plain -/
theorem Lo.en2 {K : PySem.W.Frag} {G H : Hp} {σ : L2.St} {ρ : Ro} {ds : List D} {l : Addr} {i : Nat} (h : Lo K G H l ds) (sh : Same G H) (en : En K G σ ρ) (hi : ρ[i]? = some (some (.ref l))) :
    ∃ vs, H l = some (.lst vs) ∧ Same (upd G l (.lst vs)) H ∧ En K (upd G l (.lst vs)) σ (ρ.set i (some (.lst ds))) := by
  obtain ⟨vs, h1, h2⟩ := h.ex
  have hs : Same (upd G l (.lst vs)) H := fun a u e => by
    by_cases ha : a = l
    · subst ha
      rw [upd_same] at e
      rw [h1]
      exact e
    · rw [upd_ne ha] at e
      exact sh a u e
  refine ⟨vs, h1, hs, by rw [List.length_set]; exact en.len, fun j d q => ?_⟩
  by_cases hj : i = j
  · subst hj
    rw [List.getElem?_set_self ((List.getElem?_eq_some_iff.mp hi).1)] at q
    cases q
    obtain ⟨v, a1, a2⟩ := en.at_ i _ hi
    cases a2
    exact ⟨_, a1, .lst upd_same (h2.up (Same.new h.out))⟩
  · rw [List.getElem?_set_ne hj] at q
    exact (en.up (Same.new (o := .lst vs) h.out)).at_ j d q
theorem En.skip {K : PySem.W.Frag} {G : Hp} {σ : L2.St} {ρ : Ro} {i : Nat} {v : Option V} (h : En K G σ ρ) (hi : ρ[i]? = some none) : En K G (σ.set i v) ρ := ⟨by rw [List.length_set]; exact h.len, fun j d e => by
    have hj : i ≠ j := fun z => by
      subst z
      rw [hi] at e
      cases e
    rw [List.getElem?_set_ne hj]
    exact h.at_ j d e⟩
theorem En.ref {K : PySem.W.Frag} {G : Hp} {σ : L2.St} {ρ : Ro} {i : Nat} {a : Addr} (h : En K G σ ρ) (hi : ρ[i]? = some (some (.ref a)) := by rfl) : σ[i]? = some (some (.ref a)) := by
  obtain ⟨v, h1, h2⟩ := h.at_ i _ hi
  rw [h1, h2.ref_of]
theorem En.int {K : PySem.W.Frag} {G : Hp} {σ : L2.St} {ρ : Ro} {i : Nat} {a : Int} (h : En K G σ ρ) (hi : ρ[i]? = some (some (.int a)) := by rfl) : σ[i]? = some (some (.int a)) := by
  obtain ⟨v, h1, h2⟩ := h.at_ i _ hi
  rw [h1, h2.int_of]
structure SetIn (n : Int) (o : List Int) : Prop where
  asc : o.Pairwise (· < ·)
  low : ∀ x ∈ o, 0 ≤ x ∧ x < n
theorem SetIn.len {n : Int} {o : List Int} (h : SetIn n o) (hn : n ≤ 5) : o.length ≤ 5 := by
  have key : ∀ (o : List Int) (lo : Int), o.Pairwise (· < ·) → (∀ x ∈ o, lo ≤ x ∧ x < n) → (o.length : Int) ≤ n - lo ∨ o = [] := by
    intro o
    induction o with
    | nil => intro lo _ _; exact .inr rfl
    | cons x o ih =>
      intro lo h1 h2
      obtain ⟨a1, a2⟩ := List.pairwise_cons.mp h1
      have hx := h2 x List.mem_cons_self
      left
      rcases ih (x + 1) a2 (fun y hy => ⟨by have := a1 y hy; omega, (h2 y (List.mem_cons_of_mem _ hy)).2⟩) with h | h
      · rw [List.length_cons]
        omega
      · rw [h, List.length_cons, List.length_nil]
        omega
  rcases key o 0 h.asc h.low with q | q
  · omega
  · rw [q]
    decide
theorem setIn_of {n : Int} {ks : List Nat} (h : ks.Sublist (List.range n.toNat)) : SetIn n (ks.map fun (k : Nat) => (k : Int)) := by
  refine ⟨List.pairwise_map.mpr ((List.Pairwise.sublist h List.pairwise_lt_range).imp fun {x y} q => by omega), fun x hx => ?_⟩
  obtain ⟨k, hk, rfl⟩ := List.mem_map.mp hx
  have := List.mem_range.mp (h.mem hk)
  omega
theorem subB_iff {a b : List Int} : subB a b = true ↔ ∀ x ∈ a, x ∈ b := by
  unfold subB
  rw [List.all_eq_true]
  exact ⟨fun h x hx => List.contains_iff_mem.mp (h x hx), fun h x hx => List.contains_iff_mem.mpr (h x hx)⟩
theorem topB_iff {f : List (List Int)} {o : List Int} : topB f o = true ↔ ∀ p ∈ f, subB o p = true → o = p := by
  unfold topB
  rw [Bool.not_eq_true', List.any_eq_false]
  constructor
  · intro h p hp hs
    have := h p hp
    by_cases e : o = p
    · exact e
    · exact absurd (by rw [decide_eq_false e, hs]; rfl) this
  · intro h p hp q
    rw [Bool.and_eq_true, Bool.not_eq_true'] at q
    exact absurd (h p hp q.2) (of_decide_eq_false q.1)
theorem great_mem {ks : List (List Int)} {o : List Int} : o ∈ greatestIn ks ↔ o ∈ ks ∧ topB ks o = true := by
  unfold greatestIn
  rw [usort_mem stoL, List.mem_filter]
structure FamOk (n : Int) (f : List (List Int)) : Prop where
  n2 : 2 ≤ n
  n5 : n ≤ 5
  ne : f ≠ []
  few : f.length ≤ 32
  sets : ∀ o ∈ f, SetIn n o
  asc : f.Pairwise fun a b => HT.lexLt a b = true
  anti : ∀ o ∈ f, ∀ p ∈ f, subB o p = true → o = p
  cover : ∀ t : Int, 0 ≤ t → t < n → ∃ o ∈ f, t ∈ o
theorem asc_eq {a b : List Int} (ha : a.Pairwise (· < ·)) (hb : b.Pairwise (· < ·)) (h : ∀ x, x ∈ a ↔ x ∈ b) : a = b :=
  strict_eq stoI (ha.imp fun {x y} z => decide_eq_true z) (hb.imp fun {x y} z => decide_eq_true z) h
theorem asc_nodup {a : List Int} (ha : a.Pairwise (· < ·)) : a.Nodup := ha.imp fun {x y} z e => by omega
theorem nodup_len : ∀ {a b : List Int}, a.Nodup → (∀ x ∈ a, x ∈ b) → a.length ≤ b.length
  | [], b, _, _ => Nat.zero_le _
  | x :: a, b, hn, h => by
    obtain ⟨h1, h2⟩ := List.nodup_cons.mp hn
    have hx := h x List.mem_cons_self
    have ih := nodup_len (a := a) (b := b.erase x) h2 fun y hy => (List.mem_erase_of_ne (show y ≠ x from fun e => h1 (by rw [← e]; exact hy))).mpr (h y (List.mem_cons_of_mem _ hy))
    rw [List.length_erase_of_mem hx] at ih
    have := List.length_pos_of_mem hx
    rw [List.length_cons]
    omega
theorem nodup_all {a b : List Int} (ha : a.Nodup) (h : ∀ x ∈ a, x ∈ b) (hl : b.length ≤ a.length) : ∀ x ∈ b, x ∈ a := fun x hx => Classical.byContradiction fun hno => by
  have ih := nodup_len (a := a) (b := b.erase x) ha fun y hy => (List.mem_erase_of_ne (show y ≠ x from fun e => hno (by rw [← e]; exact hy))).mpr (h y hy)
  rw [List.length_erase_of_mem hx] at ih
  have := List.length_pos_of_mem hx
  omega
theorem sub_len {n : Int} {a b : List Int} (ha : SetIn n a) (hb : SetIn n b) (h : subB a b = true) (ne : a ≠ b) : a.length < b.length := by
  have hs := subB_iff.mp h
  have hl := nodup_len (asc_nodup ha.asc) hs
  by_cases e : a.length = b.length
  · exact absurd (asc_eq ha.asc hb.asc fun x => ⟨hs x, nodup_all (asc_nodup ha.asc) hs (by omega) x⟩) ne
  · omega
theorem above {n : Int} {ks : List (List Int)} (hn : n ≤ 5) (hs : ∀ o ∈ ks, SetIn n o) : ∀ (m : Nat) (o : List Int), o ∈ ks → 6 - o.length ≤ m → ∃ p ∈ ks, topB ks p = true ∧ subB o p = true
  | 0, o, ho, hm => by
    have := (hs o ho).len hn
    omega
  | m + 1, o, ho, hm => by
    by_cases ht : topB ks o = true
    · exact ⟨o, ho, ht, subB_iff.mpr fun _ h => h⟩
    · have h2 : ∃ p ∈ ks, subB o p = true ∧ o ≠ p := by
        refine Classical.byContradiction fun hno => ht (topB_iff.mpr fun p hp hsub => Classical.byContradiction fun hne => hno ⟨p, hp, hsub, hne⟩)
      obtain ⟨p, hp, h3, h4⟩ := h2
      have hlt := sub_len (hs o ho) (hs p hp) h3 h4
      obtain ⟨q, hq, h5, h6⟩ := above hn hs m p hp (by omega)
      exact ⟨q, hq, h5, subB_iff.mpr fun x hx => subB_iff.mp h6 x (subB_iff.mp h3 x hx)⟩
theorem usort_len {α : Type} {lt : α → α → Bool} : ∀ l : List α, (usort lt l).length ≤ l.length
  | [] => Nat.le_refl _
  | x :: l => by
    have ih := usort_len (lt := lt) l
    have h : ∀ k : List α, (insU lt x k).length ≤ k.length + 1 := fun k => by
      induction k with
      | nil => simp [insU]
      | cons y k ihk =>
        unfold insU
        split
        · simp
        · split
          · simp only [List.length_cons]
            omega
          · simp
    have := h (usort lt l)
    unfold usort
    rw [List.length_cons]
    omega
theorem great_ok {n : Int} {ks : List (List Int)} (h2 : 2 ≤ n) (h5 : n ≤ 5) (hl : ks.length ≤ 32) (hs : ∀ o ∈ ks, SetIn n o) (hc : ∀ t : Int, 0 ≤ t → t < n → ∃ o ∈ ks, t ∈ o) : FamOk n (greatestIn ks) := by
  have cov : ∀ t : Int, 0 ≤ t → t < n → ∃ o ∈ greatestIn ks, t ∈ o := fun t a b => by
    obtain ⟨o, ho, hto⟩ := hc t a b
    obtain ⟨p, hp, q1, q2⟩ := above h5 hs 6 o ho (by omega)
    exact ⟨p, great_mem.mpr ⟨hp, q1⟩, subB_iff.mp q2 t hto⟩
  refine ⟨h2, h5, ?_, ?_, fun o ho => hs o (great_mem.mp ho).1, usort_lt stoL _, fun o ho p hp hsub => topB_iff.mp (great_mem.mp ho).2 p (great_mem.mp hp).1 hsub, cov⟩
  · obtain ⟨o, ho, _⟩ := cov 0 (by omega) (by omega)
    exact fun z => by
      rw [z] at ho
      cases ho
  · refine Nat.le_trans (usort_len _) (Nat.le_trans (List.length_filter_le _ _) hl)
theorem setsD_map (f : List (List Int)) : setsD (f.map dS) = f := by
  unfold setsD
  rw [List.map_map]
  conv => rhs; rw [← List.map_id f]
  refine List.map_congr_left fun o _ => ?_
  show intsD (o.map D.int) = o
  exact intsD_map o
theorem isSet_of {n : Int} {o : List Int} (h : SetIn n o) : isSetD (dS o) n = true := by
  rw [isSetD, Bool.and_eq_true, List.all_eq_true]
  refine ⟨fun d hd => ?_, ?_⟩
  · obtain ⟨i, hi, rfl⟩ := List.mem_map.mp hd
    have := h.low i hi
    rw [wholeD, decide_eq_true (by omega), decide_eq_true (by omega)]
    rfl
  · rw [intsD_map]
    exact decide_eq_true (usort_eq stoI (h.asc.imp fun {x y} z => decide_eq_true z) fun _ => Iff.rfl)
theorem FamOk.great {n : Int} {f : List (List Int)} (h : FamOk n f) : greatestIn f = f := by
  unfold greatestIn
  rw [List.filter_eq_self.mpr fun o ho => topB_iff.mpr fun p hp hs => h.anti o ho p hp hs]
  exact (usort_eq stoL h.asc fun _ => Iff.rfl).symm
theorem FamOk.is {n : Int} {f : List (List Int)} (h : FamOk n f) : isFamD (dFam n f) = true := by
  have e1 : isFam n f = true := by
    rw [isFam, decide_eq_true (usort_eq stoL h.asc fun _ => Iff.rfl), decide_eq_true h.great, Bool.and_self, Bool.true_and, List.all_eq_true]
    intro t ht
    have := List.mem_range.mp ht
    obtain ⟨o, ho, hto⟩ := h.cover (t : Int) (by omega) (by omega)
    exact List.any_eq_true.mpr ⟨o, ho, List.contains_iff_mem.mpr hto⟩
  have e2 : (f.map dS).isEmpty = false := by
    cases f with
    | nil => exact absurd rfl h.ne
    | cons _ _ => rfl
  have e3 : ((f.map dS).all fun x => isSetD x n) = true := by
    rw [List.all_eq_true]
    intro d hd
    obtain ⟨o, ho, rfl⟩ := List.mem_map.mp hd
    exact isSet_of (h.sets o ho)
  show ((decide (2 ≤ n) && decide (n ≤ 5)) && (!(f.map dS).isEmpty && (f.map dS).all fun x => isSetD x n) && isFam n (setsD (f.map dS))) = true
  rw [e2, e3, setsD_map, e1, decide_eq_true h.n2, decide_eq_true h.n5]
  rfl
theorem SetIn.sm {n : Int} {o : List Int} (h : SetIn n o) (hn : n ≤ 5) : Sm 1 (dS o) := .tup (by rw [List.length_map]; have := h.len hn; omega) fun d hd => by
  obtain ⟨i, _, rfl⟩ := List.mem_map.mp hd
  exact .int i
theorem FamOk.sm {n : Int} {f : List (List Int)} (h : FamOk n f) : Sm 3 (dFam n f) := .tup (by show 2 < 64; decide) fun d hd => by
  rcases List.mem_cons.mp hd with rfl | hd
  · exact .int n
  · rw [List.mem_singleton.mp hd]
    exact .tup (by rw [List.length_map]; have := h.few; omega) fun d hd => by
      obtain ⟨o, ho, rfl⟩ := List.mem_map.mp hd
      exact (h.sets o ho).sm h.n5


end G9
namespace G9
open PySem PySem.Spec PyProof.Rows L2 G9S
/-! ### defs that may refuse -/
open L2H HotX
inductive Out where
  | val (d : D)
  | exc (i : Nat)
def spX (K : PySem.W.Frag) (c : Nat → Addr) (R : List D → Out → Prop) : Sp := fun vs H Q E => ∃ (ds : List D) (o : Out) (G : Hp), Same G H ∧ RpL K G vs ds ∧ R ds o ∧ (∀ d, o = .val d → ∀ v G' H', Fr G H G' H' → Rp K G' v d → Q v H') ∧ (∀ i, o = .exc i → ∀ G' H', Fr G H G' H' → E (.ref (c i)) none H')
def EvX (X : Cx) (c : Nat → Addr) (E : XK) (H0 : Hp) (ρ : Ro) (e : Expr) (o : Out) : Prop := ∀ (σ : L2.St) (G H : Hp), Same H0 G → Same G H → En X.K G σ ρ → ∀ Q : VK, (∀ d, o = .val d → ∀ v G' H', Fr G H G' H' → Rp X.K G' v d → Q v H') → (∀ i, o = .exc i → ∀ G' H', Fr G H G' H' → E (.ref (c i)) none H') → wE X e σ H Q
section
variable {X : Cx} {c : Nat → Addr} {E : XK} {H0 : Hp} {ρ : Ro} {e : Expr} {es : List Expr} {d : D} {ds : List D} {o : Out} {pos p : Pos} {x : Str} {k : Nat} {R : List D → Out → Prop} {σ : L2.St} {G H : Hp} {rest : List Stmt} {N : Ends}
theorem x_of (h : Ev X H0 ρ e d) : EvX X c E H0 ρ e (.val d) := fun σ G H sg sh en Q qv _ => h σ G H sg sh en Q fun v G' H' f r => qv d rfl v G' H' f r
theorem EvX.is {o' : Out} (h : EvX X c E H0 ρ e o) (q : o = o') : EvX X c E H0 ρ e o' := q ▸ h
theorem x_call (F : FnX X.prog X.w X.K X.mg X.base x k (spX X.K c R)) (hr : Room k X.A) (tk : L2N.Takes X (fun cls d _ H => E cls d H)) (ha : EvA X H0 ρ (e :: es) ds) (hR : R ds o) (hg : Gl X x := by rfl) (hdb : (x == ("__debug__" : Str)) = false := by decide)
    (he : starEach (e :: es) X.env = (false, eval e X.env) :: starEach es X.env := by rfl) (hpl : (backTo pos (starEach es X.env)).any (·.1) = false := by rfl) : EvX X c E H0 ρ (.Call (.Name x p) (e :: es) [] pos) o := fun σ G H sg sh en Q qv qx =>
  w_callX F hr tk (ha σ G H sg sh en _ fun vs G1 H1 f1 r1 => ⟨ds, o, G1, f1.s, r1, hR, fun d hd v G' H' f r => qv d hd v G' H' (f1.trans f) r, fun i hi G' H' f => qx i hi G' H' (f1.trans f)⟩) hg hdb he hpl
/-- where it does not refuse -/
theorem e_callX (F : FnX X.prog X.w X.K X.mg X.base x k (spX X.K c R)) (hr : Room k X.A) (ha : EvA X H0 ρ (e :: es) ds) (hR : R ds (.val d)) (hg : Gl X x := by rfl) (hdb : (x == ("__debug__" : Str)) = false := by decide)
    (he : starEach (e :: es) X.env = (false, eval e X.env) :: starEach es X.env := by rfl) (hpl : (backTo pos (starEach es X.env)).any (·.1) = false := by rfl) : Ev X H0 ρ (.Call (.Name x p) (e :: es) [] pos) d := fun σ G H sg sh en Q q =>
  x_call (E := fun _ _ _ => False) F hr takes0N ha hR hg hdb he hpl σ G H sg sh en Q (fun d' hd v G' H' f r => by cases hd; exact q v G' H' f r) fun i hi => nomatch hi
/-- e, for what it refuses -/
theorem s_exprX (h : EvX X c E H0 ρ e o) (sg : Same H0 G) (sh : Same G H) (en : En X.K G σ ρ) (kx : ∀ i, o = .exc i → ∀ G' H', Fr G H G' H' → E (.ref (c i)) none H') (k : ∀ d, o = .val d → ∀ G' H', Fr G H G' H' → En X.K G' σ ρ → wB X rest N σ H') (hs : swapsWith e none pos.line X.env = pure false := by rfl) : wB X (.Expr e pos :: rest) N σ H :=
  wB_cons (wS_of (ps_expr pw hs) (h σ G H sg sh en _ (fun d hd v G1 H1 f1 r1 => k d hd G1 H1 f1 (en.up f1.g)) kx))
/-- return e, where e may refuse -/
theorem s_retX (h : EvX X c E H0 ρ e o) (sg : Same H0 G) (sh : Same G H) (en : En X.K G σ ρ) (kx : ∀ i, o = .exc i → ∀ G' H', Fr G H G' H' → E (.ref (c i)) none H') (k : ∀ d, o = .val d → ∀ v G' H', Fr G H G' H' → Rp X.K G' v d → N.rt v H') : wB X (.Return (some e) pos :: rest) N σ H :=
  wB_cons (wS_of (ps_ret pw) (h σ G H sg sh en _ k kx))
end
section
variable {P : Program} {w : World} {K : PySem.W.Frag} {mg : Str → Option Value} {base : Heap}
theorem okX {c : Nat → Addr} {x qual : Str} {st : Stmt} {f : Addr} {fd : FuncData} {N ps : List Str} {k : Nat} {R : List D → Out → Prop} (F : Fun K x qual st f fd) (S : FnScope N ps (defScope st)) (len : ∀ ds o, R ds o → ds.length = ps.length)
    (hbody : ∀ (cdv : Value) (A : Around) (outer : List Env) (s : Shared) (H G : Hp) (E : XK) (σ : L2.St) (ds : List D) (o : Out) (Q : VK), Room k (A.deeper (envOfC qual (defScope st) s.heap.objs.size f cdv)) → R ds o → Same G H → En K G σ (startD N ds) →
      L2N.Takes (cxOf (L2N.CX P w) P w K mg base N qual (defScope st) f cdv A outer s H E) (fun cls d _ H => E cls d H) → (∀ d, o = .val d → ∀ v G' H', Fr G H G' H' → Rp K G' v d → Q v H') → (∀ i, o = .exc i → ∀ G' H', Fr G H G' H' → E (.ref (c i)) none H') →
      wB (cxOf (L2N.CX P w) P w K mg base N qual (defScope st) f cdv A outer s H E) (defBody st) { nx := fun _ H' => Q .non H', rt := Q } σ H) : FnOk P w K mg base (L2N.CX P w) (k + 1) f fd ps (spX K c R) := by
  refine okN F S (fun vs H Q E h => ?_) fun cdv A outer s H E vs Q hr h tk => ?_
  · obtain ⟨ds, o, G, _, r, hR, _⟩ := h
    rw [r.length]
    exact len ds o hR
  · obtain ⟨ds, o, G, sh, r, hR, qv, qx⟩ := h
    exact hbody cdv A outer s H G E (L2.start N vs) ds o Q hr hR sh (en_start r) tk qv qx
theorem fnX_mk {x qual : Str} {st : Stmt} {f : Addr} {fd : FuncData} {ps : List Str} {k : Nat} {sp : Sp} (F : Fun K x qual st f fd) (G : FnOk P w K mg base (L2N.CX P w) k f fd ps sp) (hm : mg x = some (.ref f)) (b : Binds K fd ps []) : FnX P w K mg base x k sp := ⟨f, fd, ps, G, hm, F.kp, b⟩
end

end G9
namespace G9
open PySem PySem.Spec PyProof.Rows L2 G9S
/-! ### need_family, subsets_of, all_sets_of -/
open L2H HotX
section
variable {P : Program} {w : World} {K : PySem.W.Frag} {mg : Str → Option Value} {base : Heap}
def Good (d : D) : Prop := (∃ m, m ≤ 60 ∧ Sm m d) ∨ ∃ t, d.tyS = some t ∧ kitB t "tuple" = some false
def R_needF (ds : List D) (o : Out) : Prop := ∃ d, Good d ∧ ds = [d] ∧ o = (if isFamD d then .val .non else .exc 0)
theorem sc_needF : FnScope ["family"] ["family"] (defScope s_need_family) := ⟨rfl, rfl, rfl, by decide +kernel, rfl, by decide +kernel, by decide +kernel⟩
theorem ok_needF {f : Addr} {fd : FuncData} {c : Nat → Addr} (F : Fun K "need_family" "need_family" s_need_family f fd) (F1 : Fn P w K mg base "is_family" 3 (spR K R_is_family)) (T : ExcT K mg "InvalidFamily" (c 0)) : FnOk P w K mg base (L2N.CX P w) 4 f fd ["family"] (spX K c R_needF) := by
  refine okX F sc_needF (fun ds o h => by obtain ⟨_, _, rfl, _⟩ := h; rfl) fun cdv A outer s H G E σ ds o Q hr hR sh en tk qv qx => ?_
  obtain ⟨d, hd, rfl, rfl⟩ := hR
  refine s_when (t_not (t_val (e_call F1 hr (a_cons (e_v 0) a_nil) ⟨d, hd, rfl, rfl⟩))) same_nil sh en (fun hb G1 H1 f1 en1 => ?_) fun hb G1 H1 f1 en1 => wB_nil ?_
  · have hb : isFamD d = false := by simpa using hb
    exact s_raise T tk (qx 0 (by rw [hb]; rfl) _ _ f1)
  · have hb : isFamD d = true := by simpa using hb
    exact qv .non (by rw [hb]; rfl) _ _ _ f1 .non
theorem FamOk.good {n : Int} {f : List (List Int)} (h : FamOk n f) : Good (dFam n f) := .inl ⟨3, by decide, h.sm⟩
theorem FamOk.need {n : Int} {f : List (List Int)} (h : FamOk n f) : R_needF [dFam n f] (.val .non) := ⟨_, h.good, rfl, by rw [h.is]; rfl⟩
/-! subsets_of -/
def subsFold (ts : List Int) : List (List Int) := ts.foldl (fun acc t => acc ++ acc.map (· ++ [t])) [[]]
def R_subsets_of (ds : List D) (d : D) : Prop := ∃ ts : List Int, ts.length ≤ 5 ∧ ds = [.lst (ts.map D.int)] ∧ d = .lst ((isort HT.lexLt (subsFold ts)).map dS)
theorem sc_subsets_of : FnScope ["things", "found", "thing", "one"] ["things"] (defScope s_subsets_of) := ⟨rfl, rfl, rfl, by decide +kernel, rfl, by decide +kernel, by decide +kernel⟩
theorem subs_len (ts : List Int) : ∀ acc : List (List Int), (ts.foldl (fun acc t => acc ++ acc.map (· ++ [t])) acc).length = acc.length * 2 ^ ts.length := by
  induction ts with
  | nil => intro acc; simp
  | cons t ts ih =>
    intro acc
    rw [List.foldl_cons, ih, List.length_append, List.length_map, List.length_cons, Nat.pow_succ]
    rw [← Nat.two_mul, Nat.mul_assoc, Nat.mul_comm 2, Nat.mul_assoc]
theorem subs_mem_len (ts : List Int) : ∀ acc : List (List Int), ∀ o ∈ ts.foldl (fun acc t => acc ++ acc.map (· ++ [t])) acc, ∃ p ∈ acc, o.length ≤ p.length + ts.length := by
  induction ts with
  | nil => intro acc o ho; exact ⟨o, ho, by simp⟩
  | cons t ts ih =>
    intro acc o ho
    rw [List.foldl_cons] at ho
    obtain ⟨p, hp, hl⟩ := ih _ o ho
    rcases List.mem_append.mp hp with hp | hp
    · exact ⟨p, hp, by rw [List.length_cons]; omega⟩
    · obtain ⟨q, hq, rfl⟩ := List.mem_map.mp hp
      refine ⟨q, hq, ?_⟩
      rw [List.length_append] at hl
      simp at hl
      rw [List.length_cons]
      omega
theorem ok_subsets_of {f : Addr} {fd : FuncData} (F : Fun K "subsets_of" "subsets_of" s_subsets_of f fd) (B : Blt mg) : FnOk P w K mg base CX0 1 f fd ["things"] (spR K R_subsets_of) := by
  refine okD F sc_subsets_of (fun ds d h => by obtain ⟨_, _, rfl, _⟩ := h; rfl) fun cdv A outer s H G E σ ds d Q hr hR sh en q => ?_
  obtain ⟨ts, hl, rfl, rfl⟩ := hR
  have hN := sc_subsets_of.nd
  refine s_asg 1 (l_lst (ds := ([[]] : List (List Int)).map dS) (a_cons (e_tup (ds := ([] : List Int).map D.int) a_nil (by show 0 ≤ 100000; decide)) a_nil) (by show 1 ≤ 100000; decide)).ev same_nil sh en fun σ1 G1 H1 f1 en1 => ?_
  refine s_for 2 D.int ts (fun i ρ' G' H' => (∃ x y, ρ' = [some (.lst (ts.map D.int)), some (.lst (((ts.take i).foldl (fun acc t => acc ++ acc.map (· ++ [t])) [[]]).map dS)), x, y]) ∧ Fr G H G' H') (i_lst (e_v 0)) same_nil f1.s en1
    (fun G2 H2 f2 => ⟨⟨_, _, rfl⟩, f1.trans f2⟩) (fun i t ρ' σ' G' H' G3 H3 ht hJ f3 en3 => ?_) fun ρ' σ' G' H' hJ s2 en2 => ?_
  · obtain ⟨⟨x, y, rfl⟩, fr⟩ := hJ
    have hi : i < 5 := by
      have := (List.getElem?_eq_some_iff.mp ht).1
      omega
    have hlen : ((ts.take i).foldl (fun acc t => acc ++ acc.map (· ++ [t])) [[]]).length ≤ 32 := by
      rw [subs_len, List.length_take]
      have h1 : min i ts.length ≤ 5 := by omega
      have h2 : 2 ^ (min i ts.length) ≤ 2 ^ 5 := Nat.pow_le_pow_right (by decide) h1
      simp only [List.length_cons, List.length_nil]
      omega
    have step : (ts.take (i + 1)).foldl (fun acc t => acc ++ acc.map (· ++ [t])) [[]] = (fun acc => acc ++ acc.map (· ++ [t])) ((ts.take i).foldl (fun acc t => acc ++ acc.map (· ++ [t])) [[]]) := by
      rw [List.take_add_one, ht, List.foldl_append]
      rfl
    have hmem : ∀ o ∈ (ts.take i).foldl (fun acc t => acc ++ acc.map (· ++ [t])) [[]], o.length ≤ 5 := fun o ho => by
      obtain ⟨p, hp, h⟩ := subs_mem_len _ _ o ho
      rw [List.mem_singleton.mp hp, List.length_take] at h
      simp at h
      omega
    generalize (ts.take i).foldl (fun acc t => acc ++ acc.map (· ++ [t])) [[]] = acc at en3 hlen step hmem
    refine s_asg 1 ((l_op op_cat (e_v 1) (l_lc 3 (c_map dS acc (fun o => dS (o ++ [t])) 3 (i_lst (e_v 1)) (by omega) fun o ho _ _ _ _ _ => ((e_op op_catA (e_v 3) (e_tup (a_cons (e_v 2) a_nil) (by show 1 ≤ 100000; decide)) (rd_catT (by rw [List.length_map]; have := hmem o ho; show o.length + 1 ≤ 100000; omega))).is (by simp [dS])))).ev (rd_cat (by rw [List.length_map, List.length_map]; omega))).ev) same_nil f3.s en3 fun σ4 G4 H4 f4 en4 => wB_nil ?_
    refine ⟨_, G4, f3.g.trans f4.g, f4.s, en4, ⟨some (D.int t), y, ?_⟩, (fr.trans f3).trans f4⟩
    rw [step]
    simp only [List.map_append, List.map_map]
    rfl
  · obtain ⟨⟨x, y, rfl⟩, fr⟩ := hJ
    rw [List.take_length] at en2
    exact s_ret (l_sortLT hr.units B.sorted_ (e_v 1)).ev same_nil s2 en2 fun v G3 H3 f3 r3 => q v G3 H3 (fr.trans f3) r3
/-! all_sets_of -/
def subsets (n : Int) : List (List Int) := isort HT.lexLt (subsFold (iotaI n.toNat))
def allSets (n : Int) (f : List (List Int)) : List (List Int) := (subsets n).filter fun o => mayB f o
def R_all_sets_of (ds : List D) (d : D) : Prop := ∃ (n : Int) (f : List (List Int)), 0 ≤ n ∧ n ≤ 5 ∧ f.length ≤ 1000 ∧ ds = [dFam n f] ∧ d = .lst ((allSets n f).map dS)
theorem sc_all_sets_of : FnScope ["family", "one"] ["family"] (defScope s_all_sets_of) := ⟨rfl, rfl, rfl, by decide +kernel, rfl, by decide +kernel, by decide +kernel⟩
theorem iota_len (n : Nat) : (iotaI n).length = n := by simp
theorem subsets_len {n : Int} (h : 0 ≤ n ∧ n ≤ 5) : (subsets n).length ≤ 32 := by
  unfold subsets subsFold
  rw [(isort_perm _).length_eq, subs_len, iota_len]
  have : 2 ^ n.toNat ≤ 2 ^ 5 := Nat.pow_le_pow_right (by decide) (by omega)
  simp only [List.length_cons, List.length_nil]
  omega
theorem subsets_mem_len {n : Int} (h : 0 ≤ n ∧ n ≤ 5) {o : List Int} (ho : o ∈ subsets n) : o.length ≤ 5 := by
  unfold subsets subsFold at ho
  have := (isort_perm _).mem_iff.mp ho
  obtain ⟨p, hp, hl⟩ := subs_mem_len _ _ o this
  rw [List.mem_singleton.mp hp, iota_len] at hl
  simp at hl
  omega
theorem ok_all_sets_of {f : Addr} {fd : FuncData} (F : Fun K "all_sets_of" "all_sets_of" s_all_sets_of f fd) (B : Blt mg) (F1 : Fn P w K mg base "subsets_of" 1 (spR K R_subsets_of)) (F2 : Fn P w K mg base "may_be" 2 (spR K R_may_be)) : FnOk P w K mg base CX0 3 f fd ["family"] (spR K R_all_sets_of) := by
  refine okD F sc_all_sets_of (fun ds d h => by obtain ⟨_, _, _, _, _, rfl, _⟩ := h; rfl) fun cdv A outer s H G E σ ds d Q hr hR sh en q => ?_
  obtain ⟨n, fs, h0, h5, hf, rfl, rfl⟩ := hR
  have hN := sc_all_sets_of.nd
  have hlen := subsets_len ⟨h0, h5⟩
  refine s_ret (l_lc 1 (c_fil dS (subsets n) (fun o => mayB fs o) 1 (i_lst (e_call F1 (hr.mono (by decide)) (a_cons (l_listRg B (e_at (e_v 0) rfl) (by omega)).ev a_nil) ⟨_, by rw [iota_len]; omega, rfl, rfl⟩)) (by omega) fun o ho _ _ _ _ _ => t_val (e_call F2 hr (a_cons (e_v 0) (a_cons (e_v 1) a_nil)) ⟨n, fs, o, hf, by have := subsets_mem_len ⟨h0, h5⟩ ho; omega, rfl, rfl⟩))).ev same_nil sh en q
end

end G9
namespace G9
open PySem PySem.Spec PyProof.Rows L2 G9S
/-! ### baskets, as far as law 10 goes -/
open L2H HotX
section
variable {P : Program} {w : World} {K : PySem.W.Frag} {mg : Str → Option Value} {base : Heap}
structure Bsk where
  n : Int
  f : List (List Int)
  rows : List (List Int)
  und : List (List Int)
theorem fr_ : ¬ (("family" : Str) = "rows") := by decide +kernel
theorem fu_ : ¬ (("family" : Str) = "undone") := by decide +kernel
theorem ru_ : ¬ (("rows" : Str) = "undone") := by decide +kernel
theorem ur_ : ¬ (("undone" : Str) = "rows") := by decide +kernel
def bfs (vf vr vu : V) : List (Str × V) := [("family", vf), ("rows", vr), ("undone", vu)]
theorem bfs_made (vf vr vu : V) : putF "undone" vu (putF "rows" vr (putF "family" vf [])) = bfs vf vr vu := by
  show putF "undone" vu (if ("family" : Str) = "rows" then [(("rows" : Str), vr)] else (("family" : Str), vf) :: putF "rows" vr []) = _
  rw [if_neg fr_]
  show (if ("family" : Str) = "undone" then _ else (("family" : Str), vf) :: (if ("rows" : Str) = "undone" then _ else (("rows" : Str), vr) :: putF "undone" vu [])) = _
  rw [if_neg fu_, if_neg ru_]
  rfl
theorem bfs_f (vf vr vu : V) : (bfs vf vr vu).lookup ("family" : Str) = some vf := by rw [← bfs_made, lookup_putF, if_neg fu_, lookup_putF, if_neg fr_, lookup_putF, if_pos rfl]
theorem bfs_r (vf vr vu : V) : (bfs vf vr vu).lookup ("rows" : Str) = some vr := by rw [← bfs_made, lookup_putF, if_neg ru_, lookup_putF, if_pos rfl]
theorem bfs_u (vf vr vu : V) : (bfs vf vr vu).lookup ("undone" : Str) = some vu := by rw [← bfs_made, lookup_putF, if_pos rfl]
theorem bfs_no (vf vr vu : V) {m : Str} (h1 : ¬ m = "undone") (h2 : ¬ m = "rows") (h3 : ¬ m = "family") : (bfs vf vr vu).lookup m = none := by
  rw [← bfs_made, lookup_putF, if_neg h1, lookup_putF, if_neg h2, lookup_putF, if_neg h3]
  rfl
theorem bfs_putr (vf vr vu x : V) : putF "rows" x (bfs vf vr vu) = bfs vf x vu := by
  show (if ("family" : Str) = "rows" then _ else (("family" : Str), vf) :: (if ("rows" : Str) = "rows" then (("rows" : Str), x) :: [(("undone" : Str), vu)] else _)) = _
  rw [if_neg fr_, if_pos rfl]
  rfl
theorem bfs_putu (vf vr vu x : V) : putF "undone" x (bfs vf vr vu) = bfs vf vr x := by
  show (if ("family" : Str) = "undone" then _ else (("family" : Str), vf) :: (if ("rows" : Str) = "undone" then _ else (("rows" : Str), vr) :: (if ("undone" : Str) = "undone" then [(("undone" : Str), x)] else _))) = _
  rw [if_neg fu_, if_neg ru_, if_pos rfl]
  rfl
structure Bk (K : PySem.W.Frag) (C : Addr) (G H : Hp) (p : Addr) (b : Bsk) : Prop where
  out : G p = none
  ex : ∃ dx vf vr vu, H p = some (.ins C dx (bfs vf vr vu)) ∧ Rp K G vf (dFam b.n b.f) ∧ Rp K G vr (.lst (b.rows.map dS)) ∧ Rp K G vu (.lst (b.und.map dS))
structure InB (K : PySem.W.Frag) (C : Addr) (G : Hp) (p dx : Addr) (vf vr vu : V) (b : Bsk) : Prop where
  at_ : G p = some (.ins C dx (bfs vf vr vu))
  f : Rp K G vf (dFam b.n b.f)
  r : Rp K G vr (.lst (b.rows.map dS))
  u : Rp K G vu (.lst (b.und.map dS))
theorem InB.up {C p dx : Addr} {G G' : Hp} {vf vr vu : V} {b : Bsk} (h : InB K C G p dx vf vr vu b) (s : Same G G') : InB K C G' p dx vf vr vu b := ⟨s _ _ h.at_, h.f.up s, h.r.up s, h.u.up s⟩
theorem Bk.sh {C p : Addr} {G H : Hp} {b : Bsk} (h : Bk K C G H p b) (s : Same G H) : ∃ dx vf vr vu, Same (upd G p (.ins C dx (bfs vf vr vu))) H ∧ InB K C (upd G p (.ins C dx (bfs vf vr vu))) p dx vf vr vu b := by
  obtain ⟨dx, vf, vr, vu, h1, h2, h3, h4⟩ := h.ex
  have e := Same.new (o := .ins C dx (bfs vf vr vu)) h.out
  exact ⟨dx, vf, vr, vu, same_show s h1, upd_same, h2.up e, h3.up e, h4.up e⟩
theorem InB.bk {C p dx : Addr} {G H : Hp} {vf vr vu : V} {b : Bsk} (h : InB K C G p dx vf vr vu b) (s : Same G H) : Bk K C (hide G p) H p b := by
  have e := Kp.hide h.at_ rfl
  exact ⟨hide_same, dx, vf, vr, vu, s _ _ h.at_, h.f.kp e, h.r.kp e, h.u.kp e⟩
theorem Bk.fr {C p : Addr} {G H G' H' : Hp} {b : Bsk} (h : Bk K C G H p b) (f : Fr G H G' H') : Bk K C G' H' p b := by
  obtain ⟨dx, vf, vr, vu, h1, h2, h3, h4⟩ := h.ex
  obtain ⟨a1, a2⟩ := f.out h.out h1
  exact ⟨a1, dx, vf, vr, vu, a2, h2.up f.g, h3.up f.g, h4.up f.g⟩
theorem hide_upd {G : Hp} {p : Addr} {o : HO} : hide (upd G p o) p = hide G p := by
  funext b
  by_cases hb : b = p
  · rw [hb, hide_same, hide_same]
  · rw [hide_ne hb, hide_ne hb, upd_ne hb]
theorem hide_none {G : Hp} {p : Addr} {o : HO} (h : G p = none) : hide (upd G p o) p = G := by
  funext b
  by_cases hb : b = p
  · rw [hb, hide_same, h]
  · rw [hide_ne hb, upd_ne hb]
theorem Fr.hid {G H G' H' : Hp} {p : Addr} (f : Fr G H G' H') (hp : H p ≠ none) : Fo p (G9.hide G p) H (G9.hide G' p) H' :=
  ⟨fun b o _ e => f.h b o e, fun b o e => by
    obtain ⟨h1, h2⟩ := hide_sub e
    rw [hide_ne h1]
    exact f.g b o h2, same_hide f.s, fun b e1 e2 => by
    by_cases hb : b = p
    · rw [hb, hide_same]
    · rw [hide_ne hb] at e1 ⊢
      exact f.n b e1 e2, (f.o hp).d⟩
theorem same_put {G H : Hp} {p : Addr} {o : HO} (s : Same G H) : Same (upd G p o) (upd H p o) := fun b u e => by
  by_cases hb : b = p
  · subst hb
    rw [upd_same] at e ⊢
    exact e
  · rw [upd_ne hb] at e ⊢
    exact s b u e
structure BTx (K : PySem.W.Frag) (mg : Str → Option Value) (C : Addr) : Prop where
  cl : Cls K C
  nF : NoAttr K C "family"
  nR : NoAttr K C "rows"
  nU : NoAttr K C "undone"
  mgC : mg "Basket" = some (.ref C)
theorem InB.rows {C p dx : Addr} {G : Hp} {vf vr vu v : V} {b : Bsk} {rs : List (List Int)} (I : InB K C G p dx vf vr vu b) (r : Rp K G v (.lst (rs.map dS))) : InB K C (upd G p (.ins C dx (bfs vf v vu))) p dx vf v vu { b with rows := rs } := by
  have e := Kp.put (u := .ins C dx (bfs vf v vu)) I.at_ rfl
  exact ⟨upd_same, I.f.kp e, r.kp e, I.u.kp e⟩
theorem InB.undone {C p dx : Addr} {G : Hp} {vf vr vu v : V} {b : Bsk} {rs : List (List Int)} (I : InB K C G p dx vf vr vu b) (r : Rp K G v (.lst (rs.map dS))) : InB K C (upd G p (.ins C dx (bfs vf vr v))) p dx vf vr v { b with und := rs } := by
  have e := Kp.put (u := .ins C dx (bfs vf vr v)) I.at_ rfl
  exact ⟨upd_same, I.f.kp e, I.r.kp e, r.kp e⟩
theorem InB.no {C p dx : Addr} {G H : Hp} {vf vr vu : V} {b : Bsk} (I : InB K C G p dx vf vr vu b) (s : Same G H) : H p ≠ none := by
  rw [s _ _ I.at_]
  exact fun z => nomatch z
theorem sc_redo : FnScope ["self"] ["self"] (defScope s_Basket_redo) := ⟨rfl, rfl, rfl, by decide +kernel, rfl, by decide +kernel, by decide +kernel⟩
theorem sc_init : FnScope ["self", "family"] ["self", "family"] (defScope s_Basket_init) := ⟨rfl, rfl, rfl, by decide +kernel, rfl, by decide +kernel, by decide +kernel⟩
def spNeedF (K : PySem.W.Frag) (cF : Addr) : Sp := fun vs H Q E => ∃ (d : D) (v : V) (G : Hp), vs = [v] ∧ Same G H ∧ Rp K G v d ∧ ((∃ m, m ≤ 60 ∧ Sm m d) ∨ ∃ t, d.tyS = some t ∧ kitB t "tuple" = some false) ∧ (isFamD d = true → ∀ G' H', Fr G H G' H' → Q .non H') ∧ (isFamD d = false → ∀ G' H', Fr G H G' H' → E (.ref cF) none H')
theorem ok_need_familyX {f cF : Addr} {fd : FuncData} (F : Fun K "need_family" "need_family" s_need_family f fd) (F1 : Fn P w K mg base "is_family" 3 (spR K R_is_family)) (T : ExcT K mg "InvalidFamily" cF) : FnOk P w K mg base (L2N.CX P w) 4 f fd ["family"] (spNeedF K cF) := by
  refine okN F sc_needF (fun vs H Q E h => by obtain ⟨d, v, G, rfl, _⟩ := h; rfl) fun cdv A outer s H E vs Q hr h tk => ?_
  obtain ⟨d, v, G, rfl, sh, r, hd, q1, q2⟩ := h
  refine s_when (t_not (t_val (e_call F1 hr (a_cons (e_v 0) a_nil) ⟨d, hd, rfl, rfl⟩))) same_nil sh (en_start (N := ["family"]) (ds := [d]) (.cons r .nil)) (fun hb G1 H1 f1 en1 => ?_) fun hb G1 H1 f1 en1 => wB_nil (q1 (by simpa using hb) _ _ f1)
  exact s_raise T tk (q2 (by simpa using hb) _ _ f1)

def spInitX (K : PySem.W.Frag) (C cF : Addr) : Sp := fun vs H Q E => ∃ (p dx : Addr) (vf : V) (d : D) (G : Hp), vs = [.ref p, vf] ∧ Same G H ∧ G p = none ∧ H p = some (.ins C dx []) ∧ Rp K G vf d ∧ ((∃ m, m ≤ 60 ∧ Sm m d) ∨ ∃ t, d.tyS = some t ∧ kitB t "tuple" = some false) ∧ ((∃ n f, d = dFam n f ∧ FamOk n f) ∨ isFamD d = false) ∧
  (∀ n f, d = dFam n f → FamOk n f → ∀ G' H', Fo p G H G' H' → Bk K C G' H' p ⟨n, f, [[]], []⟩ → Q .non H') ∧ (isFamD d = false → ∀ G' H', Fr G H G' H' → E (.ref cF) none H')
theorem ok_initX {f C cF : Addr} {fd : FuncData} (F : Fun K "__init__" "Basket.__init__" s_Basket_init f fd) (T : BTx K mg C) (F1 : FnX P w K mg base "need_family" 4 (spNeedF K cF)) : FnOk P w K mg base (L2N.CX P w) 5 f fd ["self", "family"] (spInitX K C cF) := by
  refine okN F sc_init (fun vs H Q E h => by obtain ⟨p, dx, vf, d, G, rfl, _⟩ := h; rfl) fun cdv A outer s H E vs Q hr h tk => ?_
  obtain ⟨p, dx, vf, d, G, rfl, sh, gp, hp, rf, hd, hor, q, qx⟩ := h
  have s1 := same_show sh hp
  have e1 := Same.new (o := .ins C dx []) gp
  have en0 : En K (upd G p (.ins C dx [])) (L2.start ["self", "family"] [.ref p, vf]) [some (.ref p), some d] := en_start (N := ["self", "family"]) (ds := [.ref p, d]) (.cons (.ref p) (.cons (rf.up e1) .nil))
  refine wB_cons (wS_of (ps_expr pw) (w_callX F1 hr tk (useA en0 (Same.refl _) s1 (a_cons (e_v 1) a_nil) fun vs Ga Ha fa ra => ?_)))
  cases ra with
  | cons ra rn =>
  cases rn
  refine ⟨d, _, Ga, rfl, fa.s, ra, hd, fun hok Gb Hb fb => ?_, fun hno Gb Hb fb => qx hno _ _ ((fa.trans fb).hide gp)⟩
  obtain ⟨n, f, rfl, ok⟩ : ∃ n f, d = dFam n f ∧ FamOk n f := by
    rcases hor with h | h
    · exact h
    · rw [h] at hok
      cases hok
  have q := q n f rfl ok
  have f1 := fa.trans fb
  have en1 := en0.up f1.g
  generalize hG1 : Gb = G1 at f1 en1
  generalize hH1 : Hb = H1 at f1
  show wB _ _ _ _ _
  have g1 : G1 p = some (.ins C dx []) := f1.g _ _ upd_same
  have nn : ∀ {H : Hp} {o : HO}, H p = some o → H p ≠ none := fun e z => by
    rw [e] at z
    cases z
  have m1 : Fo p G H (hide G1 p) H1 := by
    have := f1.hid (p := p) (nn hp)
    rwa [hide_none gp] at this
  refine s_fld (e_v 1) (e_v 0) (Same.refl _) f1.s en1 g1 T.cl T.nF (by show 0 < 1000; decide) fun v2 G2 H2 f2 r2 => ?_
  have g2 : G2 p = some (.ins C dx []) := f2.g _ _ g1
  have k2 := Kp.put (u := .ins C dx (putF "family" v2 [])) g2 rfl
  have s2 := same_put (p := p) (o := .ins C dx (putF "family" v2 [])) f2.s
  have en2 := (en1.up f2.g).kp k2
  have m2 : Fo p G H (hide (upd G2 p (.ins C dx (putF "family" v2 []))) p) (upd H2 p (.ins C dx (putF "family" v2 []))) := by
    rw [hide_upd]
    exact (m1.trans (f2.hid (nn (f1.s _ _ g1)))).mut hide_same
  refine s_fld (d := .lst (([[]] : List (List Int)).map dS)) (l_lst (a_cons (e_tup a_nil (by show 0 ≤ 100000; decide)) a_nil)).ev (e_v 0) (Same.refl _) s2 en2 upd_same T.cl T.nR (by show 1 < 1000; decide) fun v3 G3 H3 f3 r3 => ?_
  have g3 : G3 p = some (.ins C dx (putF "family" v2 [])) := f3.g _ _ upd_same
  have k3 := Kp.put (u := .ins C dx (putF "rows" v3 (putF "family" v2 []))) g3 rfl
  have s3 := same_put (p := p) (o := .ins C dx (putF "rows" v3 (putF "family" v2 []))) f3.s
  have en3 := (en2.up f3.g).kp k3
  have m3 : Fo p G H (hide (upd G3 p (.ins C dx (putF "rows" v3 (putF "family" v2 [])))) p) (upd H3 p (.ins C dx (putF "rows" v3 (putF "family" v2 [])))) := by
    rw [hide_upd]
    exact (m2.trans (f3.hid (nn (s2 _ _ upd_same)))).mut hide_same
  refine s_fld (d := .lst (([] : List (List Int)).map dS)) (l_lst a_nil).ev (e_v 0) (Same.refl _) s3 en3 upd_same T.cl T.nU (by rw [show putF "rows" v3 (putF "family" v2 []) = [(("family" : Str), v2), ("rows", v3)] from if_neg fr_]; show 2 < 1000; decide) fun v4 G4 H4 f4 r4 => ?_
  have g4 : G4 p = some (.ins C dx (putF "rows" v3 (putF "family" v2 []))) := f4.g _ _ upd_same
  have k4 := Kp.put (u := .ins C dx (bfs v2 v3 v4)) g4 rfl
  rw [bfs_made]
  have I : InB K C (upd G4 p (.ins C dx (bfs v2 v3 v4))) p dx v2 v3 v4 ⟨n, f, [[]], []⟩ := ⟨upd_same, ((((r2.kp k2).up f3.g).kp k3).up f4.g).kp k4, ((r3.kp k3).up f4.g).kp k4, r4.kp k4⟩
  refine wB_nil (q (hide (upd G4 p (.ins C dx (bfs v2 v3 v4))) p) _ ?_ (I.bk (same_put f4.s)))
  rw [hide_upd]
  exact (m3.trans (f4.hid (nn (s3 _ _ upd_same)))).mut hide_same
/-- redo, where nothing was undone -/
def spRedo0 (K : PySem.W.Frag) (C cN : Addr) : Sp := fun vs H Q E => ∃ (p : Addr) (G : Hp) (b : Bsk), vs = [.ref p] ∧ Same G H ∧ Bk K C G H p b ∧ b.und = [] ∧ ∀ G' H', Fr G H G' H' → E (.ref cN) none H'
theorem ok_redo0 {f C cN : Addr} {fd : FuncData} (F : Fun K "redo" "Basket.redo" s_Basket_redo f fd) (T : BTx K mg C) (TN : ExcT K mg "NothingToUndo" cN) : FnOk P w K mg base (L2N.CX P w) 2 f fd ["self"] (spRedo0 K C cN) := by
  refine okN F sc_redo (fun vs H Q E h => by obtain ⟨p, G, b, rfl, _⟩ := h; rfl) fun cdv A outer s H E vs Q hr h tk => ?_
  obtain ⟨p, G, b, rfl, sh, bk, hu, qx⟩ := h
  obtain ⟨dx, vf, vr, vu, s1, I⟩ := bk.sh sh
  have en0 : En K (upd G p (.ins C dx (bfs vf vr vu))) (L2.start ["self"] [.ref p]) [some (.ref p)] := en_start (N := ["self"]) (ds := [.ref p]) (.cons (.ref p) .nil)
  exact s_when (b := true) ((t_eqD hr.units (e_fld (e_v 0) I.at_ T.cl T.nU (bfs_u _ _ _) I.u) ((l_lst a_nil).ev.is (d' := .lst (([] : List (List Int)).map dS)) rfl) (sh_lF (n := 0) _) (sh_lF (n := 0) [])).is (by rw [eqv_lF, hu]; rfl)) (Same.refl _) s1 en0 (fun _ G1 H1 f1 en1 => s_raise TN tk (qx _ _ (f1.hide bk.out))) fun hb => nomatch hb
end
section
variable {X : Cx} {ρ : Ro} {C : Addr} {p1 pos : Pos}
theorem fo_new {G1 H1 G2 H2 : Hp} {x dx : Addr} {o1 o2 : HO} (hx : H1 x = none) (hdx : H1 dx = none) (fo : Fo x G1 (upd (upd H1 dx o1) x o2) G2 H2) : Fr G1 H1 G2 H2 := by
  have k1 : ∀ b o, H1 b = some o → upd (upd H1 dx o1) x o2 b = some o := fun b o e => by
    rw [upd_ne (ne_of_none e hx), upd_ne (ne_of_none e hdx)]
    exact e
  refine ⟨fun b o e => fo.h b o (ne_of_none e hx) (k1 b o e), fo.g, fo.s, fun b e1 e2 => fo.n b e1 fun z => ?_⟩
  cases e : H1 b with
  | none => exact e2 e
  | some o =>
    rw [k1 b o e] at z
    cases z
theorem fr_new {G1 H1 G2 H2 : Hp} {x dx : Addr} {o1 o2 : HO} (hx : H1 x = none) (hdx : H1 dx = none) (f : Fr G1 (upd (upd H1 dx o1) x o2) G2 H2) : Fr G1 H1 G2 H2 := by
  have k1 : ∀ b o, H1 b = some o → upd (upd H1 dx o1) x o2 b = some o := fun b o e => by
    rw [upd_ne (ne_of_none e hx), upd_ne (ne_of_none e hdx)]
    exact e
  refine ⟨fun b o e => f.h b o (k1 b o e), f.g, f.s, fun b e1 e2 => f.n b e1 fun z => ?_⟩
  cases e : H1 b with
  | none => exact e2 e
  | some o =>
    rw [k1 b o e] at z
    cases z
structure MkB (P : Program) (w : World) (K : PySem.W.Frag) (mg : Str → Option Value) (base : Heap) (C cF : Addr) : Prop where
  ex : ∃ (f : Addr) (fd : FuncData), Mk K C f ∧ FnOk P w K mg base (L2N.CX P w) 5 f fd ["self", "family"] (spInitX K C cF) ∧ Binds K fd ["self", "family"] []
theorem w_makeX {Q : VK} {E : XK} {e : Expr} {d : D} {cF : Addr} {H0 G H : Hp} {σ : L2.St} (M : MkB X.prog X.w X.K X.mg X.base C cF) (Tx : BTx X.K X.mg C) (hr : Room 6 X.A) (tk : L2N.Takes X (fun cls d _ H => E cls d H)) (en : En X.K G σ ρ) (sg : Same H0 G) (sh : Same G H) (h : Ev X H0 ρ e d) (hd : (∃ m, m ≤ 60 ∧ Sm m d) ∨ ∃ t, d.tyS = some t ∧ kitB t "tuple" = some false) (hf : (∃ n f, d = dFam n f ∧ FamOk n f) ∨ isFamD d = false)
    (q : ∀ n f, d = dFam n f → FamOk n f → ∀ x G' H', Fr G H G' H' → H x = none → Bk X.K C G' H' x ⟨n, f, [[]], []⟩ → Q (.ref x) H') (qx : isFamD d = false → ∀ G' H', Fr G H G' H' → E (.ref cF) none H') (hg : Gl X "Basket" := by rfl)
    (he : starEach [e] X.env = (false, eval e X.env) :: starEach [] X.env := by rfl) (hpl : (backTo pos (starEach [] X.env)).any (·.1) = false := by rfl) : wE X (.Call (.Name "Basket" p1) [e] [] pos) σ H Q := by
  obtain ⟨fI, fdI, Mk1, FI, bI⟩ := M.ex
  refine wE_of (pe_make Mk1 FI hr hg Tx.mgC bI .nil (L2N.passes_call tk fun _ _ _ _ h => h) (pa_cons pw pa_nil he) (by decide) he hpl) (useE en sg sh h fun v G1 H1 f1 r1 x dx hx hdx hne => ?_)
  have k1 : ∀ b o, H1 b = some o → upd (upd H1 dx (.own x)) x (.ins C dx []) b = some o := fun b o e => by
    rw [upd_ne (ne_of_none e hx), upd_ne (ne_of_none e hdx)]
    exact e
  exact ⟨x, dx, v, d, G1, rfl, fun b o e => k1 b o (f1.s b o e), f1.s.free hx, upd_same, r1, hd, hf, fun n f e1 e2 G2 H2 fo bk => ⟨rfl, q n f e1 e2 x G2 H2 (f1.trans (fo_new hx hdx fo)) (f1.h.free hx) bk⟩, fun e1 G2 H2 f2 => qx e1 G2 H2 (f1.trans (fr_new hx hdx f2))⟩
end

end G9
namespace G9
open PySem PySem.Spec PyProof.Rows L2 G9S
section
variable {P : Program} {w : World} {K : PySem.W.Frag} {mg : Str → Option Value} {base : Heap}
/-! ### _law_drawn -/
def drawn (c k : Int) : Int :=
  let m1 := (c * 6364136223846793005 + (k + 1) * 1442695040888963407) % 340282366920938463463374607431768211507
  let m2 := m1 * m1 % 340282366920938463463374607431768211297
  (m2 % 18446744073709551557 + 1) * (m2 / 18446744073709551557 + 1) * m2 % 340282366920938463463374607431768211507
theorem drawn_nn (c k : Int) : 0 ≤ drawn c k := Int.emod_nonneg _ (by decide)
def R_law_drawn (ds : List D) (d : D) : Prop := ∃ c k : Int, ds = [.int c, .int k] ∧ d = .int (drawn c k)
theorem sc_law_drawn : FnScope ["cell", "k", "more"] ["cell", "k"] (defScope s_law_drawn) := ⟨rfl, rfl, rfl, by decide +kernel, rfl, by decide +kernel, by decide +kernel⟩
theorem bits_of {m p : Int} {n : Nat} (h0 : 0 ≤ m) (h1 : m < p) (hp : p.natAbs ≤ 2 ^ n) : m.natAbs < 2 ^ n := by omega
theorem ok_law_drawn {f : Addr} {fd : FuncData} (F : Fun K "_law_drawn" "_law_drawn" s_law_drawn f fd) : FnOk P w K mg base CX0 1 f fd ["cell", "k"] (spR K R_law_drawn) := by
  refine okD F sc_law_drawn (fun ds d h => by obtain ⟨_, _, rfl, _⟩ := h; rfl) fun cdv A outer s H G E σ ds d Q hr hR sh en q => ?_
  obtain ⟨c, k, rfl, rfl⟩ := hR
  have hN := sc_law_drawn.nd
  have e1 := Int.emod_nonneg (c * 6364136223846793005 + (k + 1) * 1442695040888963407) (b := 340282366920938463463374607431768211507) (by decide)
  have e2 := Int.emod_lt_of_pos (c * 6364136223846793005 + (k + 1) * 1442695040888963407) (b := 340282366920938463463374607431768211507) (by decide)
  refine s_asg 2 (e_op op_mod (e_op op_add (e_op op_mul (e_v 0) e_int (rd_ic (.inr ⟨by decide, by decide⟩))) (e_op op_mul (e_op op_add (e_v 1) e_int rd_i) e_int (rd_ic (.inr ⟨by decide, by decide⟩))) rd_i) e_int (rd_ic (by decide))) same_nil sh en fun σ1 G1 H1 f1 en1 => ?_
  have b1 := bits_of (n := 129) e1 e2 (by decide)
  generalize hm1 : (c * 6364136223846793005 + (k + 1) * 1442695040888963407) % 340282366920938463463374607431768211507 = m1 at e1 e2 b1 en1
  refine s_asg 2 (e_op op_mod (e_op op_mulX (e_v 2) (e_v 2) (rd_ic (mulx_ok b1 b1 (by decide)))) e_int (rd_ic (by decide))) same_nil f1.s en1 fun σ2 G2 H2 f2 en2 => ?_
  have e3 := Int.emod_nonneg (m1 * m1) (b := 340282366920938463463374607431768211297) (by decide)
  have e4 := Int.emod_lt_of_pos (m1 * m1) (b := 340282366920938463463374607431768211297) (by decide)
  have b2 := bits_of (n := 128) e3 e4 (by decide)
  generalize hm2 : m1 * m1 % 340282366920938463463374607431768211297 = m2 at e3 e4 b2 en2
  have e5 := Int.emod_nonneg m2 (b := 18446744073709551557) (by decide)
  have e6 := Int.emod_lt_of_pos m2 (b := 18446744073709551557) (by decide)
  have e7 : 0 ≤ m2 / 18446744073709551557 := Int.ediv_nonneg e3 (by decide)
  have e8 : m2 / 18446744073709551557 ≤ m2 := Int.ediv_le_self _ e3
  have b3 : (m2 % 18446744073709551557 + 1).natAbs < 2 ^ 64 := by omega
  have b4 : (m2 / 18446744073709551557 + 1).natAbs < 2 ^ 129 := by omega
  have b5 : ((m2 % 18446744073709551557 + 1) * (m2 / 18446744073709551557 + 1)).natAbs < 2 ^ 193 := by
    rw [Int.natAbs_mul, show (2 : Nat) ^ 193 = 2 ^ 64 * 2 ^ 129 from by decide]
    exact Nat.mul_lt_mul'' b3 b4
  refine s_asg 2 (e_op op_mulX (e_op op_mulX (e_op op_add (e_op op_mod (e_v 2) e_int (rd_ic (by decide))) e_int rd_i) (e_op op_add (e_op op_fdivW (e_v 2) e_int (rd_ic (wide_div (b := 64) (by decide) (by decide) (by decide) (by decide)))) e_int rd_i) (rd_ic (mulx_ok b3 b4 (by decide)))) (e_v 2) (rd_ic (mulx_ok b5 b2 (by decide)))) same_nil f2.s en2 fun σ3 G3 H3 f3 en3 => ?_
  refine s_ret ((e_op op_mod (e_v 2) e_int (rd_ic (by decide))).is ?_) same_nil f3.s en3 fun v G4 H4 f4 r4 => q v G4 H4 (((f1.trans f2).trans f3).trans f4) r4
  unfold drawn
  simp only [hm1, hm2]
/-! ### _law_roll: any number below many; the dice turn -/
def Die (H : Hp) (a : Addr) : Prop := ∃ x y : Int, H a = some (.lst [.int x, .int y])
structure Fd (a : Addr) (H H' : Hp) : Prop where
  k : ∀ b o, b ≠ a → H b = some o → H' b = some o
  d : Die H' a
def spRoll : Sp := fun vs H Q _ => ∃ (a : Addr) (n : Int), vs = [.ref a, .int n] ∧ 0 < n ∧ n < 1000000000 ∧ Die H a ∧ ∀ r H', 0 ≤ r → r < n → Fd a H H' → Q (.int r) H'
theorem sc_law_roll : FnScope ["dice", "many", "told"] ["dice", "many"] (defScope s_law_roll) := ⟨rfl, rfl, rfl, by decide +kernel, rfl, by decide +kernel, by decide +kernel⟩
theorem ok_law_roll {f : Addr} {fd : FuncData} (F : Fun K "_law_roll" "_law_roll" s_law_roll f fd) (F1 : Fn P w K mg base "_law_drawn" 1 (spR K R_law_drawn)) : FnOk P w K mg base CX0 2 f fd ["dice", "many"] spRoll := by
  refine okS F sc_law_roll (fun vs H Q E h => by obtain ⟨a, n, rfl, _⟩ := h; rfl) fun cdv A outer s H E vs Q hr h => ?_
  obtain ⟨a, n, rfl, hn, hn2, ⟨x, y, ha⟩, q⟩ := h
  have hN := sc_law_roll.nd
  have en0 : ∀ {H' : Hp} {x y : Int} {t : Option V}, H' a = some (.lst [.int x, .int y]) → En K H' [some (.ref a), some (.int n), t] [some (.lst [.int x, .int y]), some (.int n), none] := fun {H' x y t} h => ⟨rfl, fun i d e => by
    match i, e with
    | 0, e => cases e; exact ⟨_, rfl, .lst h (.cons (.int _) (.cons (.int _) .nil))⟩
    | 1, e => cases e; exact ⟨_, rfl, .int _⟩
    | 2, e => cases e
    | i + 3, e => cases e⟩
  have eno : ∀ {t : Option V}, En K Nil [some (.ref a), some (.int n), t] [some (.ref a), none, none] := fun {t} => ⟨rfl, fun i d e => by
    match i, e with
    | 0, e => cases e; exact ⟨_, rfl, .ref a⟩
    | 1, e => cases e
    | 2, e => cases e
    | i + 3, e => cases e⟩
  refine s_when (t_cmp op_ge (e_atL (e_v 0) rfl) (e_op op_pow e_int e_int (rd_ic ⟨by decide, by decide, by decide⟩)) rd_b) same_nil (Same.refl H) (en0 ha) (fun hb G1 H1 f1 en1 => ?_) fun hb G1 H1 f1 en1 => ?_
  · refine s_asgX 2 (e_op op_mod (e_atL (e_v 0) rfl) (e_v 1) (rd_ic hn)) same_nil f1.s en1 fun t G2 H2 f2 r2 => ?_
    obtain rfl := r2.int_of
    have hH2 := (f1.h.trans f2.h) _ _ ha
    refine s_setL (j := 0) (ρo := [some (.ref a), none, none]) (e_op op_fdiv (e_atL (e_v 0) rfl) (e_v 1) (rd_ic ⟨hn, by omega⟩)) (e_v 0) e_int same_nil (Same.refl H2) (en0 hH2) eno hH2 (by show 0 < 2; decide) fun v G3 H3 f3 r3 => ?_
    obtain rfl := r3.int_of
    refine s_ret (ρ := [none, none, some (.int (x % n))]) (e_v 2) same_nil (Same.refl _) ⟨rfl, fun i d e => ?_⟩ fun v G4 H4 f4 r4 => ?_
    · match i, e with
      | 0, e => cases e
      | 1, e => cases e
      | 2, e => cases e; exact ⟨_, rfl, .int _⟩
      | i + 3, e => cases e
    · obtain rfl := r4.int_of
      refine q _ _ (Int.emod_nonneg _ (by omega)) (Int.emod_lt_of_pos _ hn) ⟨fun b o hb e => f4.h _ _ ?_, _, _, f4.h _ _ upd_same⟩
      rw [upd_ne hb]
      exact f3.h _ _ (f2.h _ _ (f1.h _ _ e))
  · have hH1 := f1.h _ _ ha
    refine s_setL (j := 1) (ρo := [some (.ref a), none, none]) (e_op op_add (e_atL (e_v 0) rfl) e_int rd_i) (e_v 0) e_int same_nil (Same.refl H1) (en0 hH1) eno hH1 (by show 1 < 2; decide) fun v G3 H3 f3 r3 => ?_
    obtain rfl := r3.int_of
    have hH4 : upd H3 a (.lst [.int x, .int (y + 1)]) a = some (.lst [.int x, .int (y + 1)]) := upd_same
    refine s_ret (e_op op_mod (e_op op_fdiv (e_call F1 hr (a_cons (e_atL (e_v 0) rfl) (a_cons (e_atL (e_v 0) rfl) a_nil)) ⟨x, y + 1, rfl, rfl⟩) e_int (rd_ic ⟨by decide, by decide⟩)) (e_v 1) (rd_ic hn)) same_nil (Same.refl _) (en0 hH4) fun v G4 H4 f4 r4 => ?_
    obtain rfl := r4.int_of
    refine q _ _ (Int.emod_nonneg _ (by omega)) (Int.emod_lt_of_pos _ hn) ⟨fun b o hb e => f4.h _ _ ?_, _, _, f4.h _ _ upd_same⟩
    show upd H3 a _ b = _
    rw [upd_ne hb]
    exact f3.h _ _ (f1.h _ _ e)
/-! ### _law_cell -/
def spCell (K : PySem.W.Frag) : Sp := fun vs H Q _ => ∃ (a : Addr) (ns : List Int) (k : Int), vs = [.ref a, .int k] ∧ SqL K H a (ns.map V.int) ∧ ns.length ≤ 63 ∧ 0 ≤ k ∧ k ≤ 1000 ∧ ∀ c H', Same H H' → Q (.int c) H'
theorem sc_law_cell : FnScope ["script", "k"] ["script", "k"] (defScope s_law_cell) := ⟨rfl, rfl, rfl, by decide +kernel, rfl, by decide +kernel, by decide +kernel⟩
theorem dp_ints {K : PySem.W.Frag} {H : Hp} : ∀ ns : List Int, DpAll K H (ns.map V.int) (ns.map PyData.int)
  | [] => .nil
  | n :: ns => .cons (.int n) (dp_ints ns)
theorem pyL_ints : ∀ ns : List Int, D.pyL (ns.map D.int) = ns.map PyData.int
  | [] => rfl
  | n :: ns => by rw [List.map_cons, List.map_cons, D.pyL, D.py, pyL_ints ns]
theorem ok_law_cell {f : Addr} {fd : FuncData} (F : Fun K "_law_cell" "_law_cell" s_law_cell f fd) (B : Blt mg) : FnOk P w K mg base CX0 1 f fd ["script", "k"] (spCell K) := by
  refine F.ok sc_law_cell (fun vs H Q E h => by obtain ⟨a, ns, k, rfl, _⟩ := h; rfl) fun cdv A outer s H vs Q E hr h => ?_
  obtain ⟨a, ns, k, rfl, hs, hl, hk, hk2, q⟩ := h
  refine ⟨_, pss_cons (ps_if (pt_cmpR (op_eqD hr.units) (pv 0) (pe_lst pa_nil) (nomark _)) (pss_one (ps_ret (pe_op op_mul (pv 1) pe_int))) pss_nil)
    (pss_one (ps_ret (pe_op op_add (pe_ix ix_list (pv 0) (pe_op op_mod (pv 1) (pe_callB call_len_seq (by rfl) B.len_ PySem.boot_len (pa_cons (pv 0) pa_nil))) (fun _ _ => rfl))
      (pe_op op_mul (pe_op op_fdiv (pv 1) (pe_callB call_len_seq (by rfl) B.len_ PySem.boot_len (pa_cons (pv 0) pa_nil))) pe_int)))), ?_⟩
  refine ⟨_, rfl, Nat.zero_le _, fun p hp => ?_⟩
  have s1 : Same H (upd H p (.lst [])) := Same.new hp
  have hs1 := s1.seq hs
  have shp : SeqAt.shaped (.list (ns.map PyData.int)) = true := by
    have := (sh_lS (n := 0) ns).shaped
    rw [D.py, pyL_ints] at this
    exact this
  refine ⟨_, _, .lst hs1 (dp_ints ns), .lst (SqL.of upd_same) .nil, shp, by decide +kernel, _, rfl, ?_⟩
  cases ns with
  | nil =>
    refine iteT ?_
    exact ⟨_, rfl, _, _, rfl, rfl, .inr ⟨by decide, by decide⟩, q _ _ s1⟩
  | cons m ns =>
    refine iteF ?_
    have hp0 : (0 : Int) < ((m :: ns).map V.int).length := by rw [List.length_map, List.length_cons]; omega
    have hj := Int.emod_lt_of_pos k hp0
    have hj0 := Int.emod_nonneg k (Int.ne_of_gt hp0)
    obtain ⟨z, hz⟩ : ∃ z, ((m :: ns).map V.int)[(k % (((m :: ns).map V.int).length : Int)).toNat]? = some (V.int z) := by
      rw [List.getElem?_map]
      have hlt : (k % (((m :: ns).map V.int).length : Int)).toNat < (m :: ns).length := by
        rw [List.length_map] at hj hj0 ⊢
        omega
      rw [List.getElem?_eq_getElem hlt]
      exact ⟨_, rfl⟩
    refine ⟨_, rfl, _, rfl, _, rfl, a, _, rfl, .inl hs1, _, _, rfl, rfl, hp0, a, _, _, V.int z, rfl, rfl, hs1, ?_, _, rfl, _, rfl, a, _, rfl, .inl hs1, _, _, rfl, rfl, ⟨hp0, ?_⟩, _, _, rfl, rfl, .inr ⟨by decide, by decide⟩, _, _, rfl, rfl, q _ _ s1⟩
    · refine at_of (j := (k % (((m :: ns).map V.int).length : Int)).toNat) ?_ hz
      rw [Int.toNat_of_nonneg hj0]
    · rw [List.length_map]
      omega
/-! ### _law_rounds: a new list of dice -/
def spRounds (K : PySem.W.Frag) : Sp := fun vs H Q _ => ∃ (sc : Addr) (ns : List Int) (m : Int), vs = [.ref sc, .int m] ∧ SqL K H sc (ns.map V.int) ∧ ns.length ≤ 63 ∧ 1 ≤ m ∧ m ≤ 10 ∧
  ∀ (l : Addr) (as : List Addr) (H' : Hp), Same H H' → H l = none → H' l = some (.lst (as.map V.ref)) → as.Nodup → (∀ a ∈ as, H a = none ∧ a ≠ l ∧ Die H' a) → Q (.ref l) H'
theorem sc_law_rounds : FnScope ["script", "most", "k"] ["script", "most"] (defScope s_law_rounds) := ⟨rfl, rfl, rfl, by decide +kernel, rfl, by decide +kernel, by decide +kernel⟩
theorem ok_law_rounds {f f1 : Addr} {fd fd1 : FuncData} (F : Fun K "_law_rounds" "_law_rounds" s_law_rounds f fd) (B : Blt mg) (G1 : FnOk P w K mg base CX0 1 f1 fd1 ["script", "k"] (spCell K)) (m1 : mg "_law_cell" = some (.ref f1)) (k1 : PySem.W.keepIn K (.ref f1) = true) (b1 : Binds K fd1 ["script", "k"] []) :
    FnOk P w K mg base CX0 2 f fd ["script", "most"] (spRounds K) := by
  refine F.ok sc_law_rounds (fun vs H Q E h => by obtain ⟨a, ns, k, rfl, _⟩ := h; rfl) fun cdv A outer s H vs Q E hr h => ?_
  obtain ⟨sc, ns, m, rfl, hs, hl, hm, hm2, q⟩ := h
  have nd := sc_law_rounds.nd
  refine ⟨_, pss_one (ps_ret (pe_lc (own := [("k", 2)]) (g := gName 2) (tt := tYes) rfl nd (pi_range1 rfl B.range_ (pa_cons (pe_callB (call_max2 rfl) (by rfl) B.max_ (by decide +kernel) (pa_cons pe_int (pa_cons (pe_callB (call_min2 rfl) (by rfl) B.min_ (by decide +kernel) (pa_cons (pv 1) (pa_cons (pe_callB call_len_seq (by rfl) B.len_ PySem.boot_len (pa_cons (pv 0) pa_nil)) pa_nil))) pa_nil))) pa_nil))
    (blkOk_by (N := ["script", "most", "k"]) (sc := defScope s_law_rounds) (by decide +kernel)) (fun _ _ _ _ _ => pg_name (i := 2) nd rfl (Or.inl rfl)) (fun _ _ _ _ _ => pts_nil)
    (fun _ _ _ _ _ => pe_lst (pa_cons (pe_call G1 hr rfl m1 k1 b1 .nil pass0 (pa_cons (pv 0) (pa_cons (pv 2) pa_nil))) (pa_cons pe_int pa_nil))))), ?_⟩
  refine ⟨_, rfl, _, rfl, sc, _, rfl, .inl hs, _, _, rfl, _, _, rfl, ?_⟩
  generalize hj : (if (if ((ns.map V.int).length : Int) < m then ((ns.map V.int).length : Int) else m) > 1 then (if ((ns.map V.int).length : Int) < m then ((ns.map V.int).length : Int) else m) else 1) = j
  have j1 : 1 ≤ j ∧ j ≤ 10 := by
    rw [← hj]
    split <;> split <;> omega
  refine ⟨j, rfl, by omega, by omega, fun Dl hD => ?_⟩
  refine lc_range (lo := 0) (n := j.toNat) (fun i H' => Same H H' ∧ ∃ as : List Addr, H' Dl = some (.lst (as.map V.ref)) ∧ as.length ≤ i ∧ as.Nodup ∧ ∀ a ∈ as, H a = none ∧ a ≠ Dl ∧ Die H' a) ⟨Same.new hD, [], upd_same, Nat.le_refl _, List.nodup_nil, fun a ha => nomatch ha⟩ (fun i H' hi ⟨p1, as, p2, p3, p4, p5⟩ => ?_) fun H' ⟨p1, as, p2, p3, p4, p5⟩ => ?_
  · refine ⟨rfl, ?_⟩
    unfold tYes
    dsimp only
    rw [if_pos rfl]
    refine ⟨_, rfl, _, rfl, sc, ns, _, rfl, p1.seq hs, hl, by omega, by omega, fun c H2 s2 => ?_⟩
    refine ⟨by show 2 ≤ sizeLine; decide, fun b hb => ⟨as.map V.ref, ?_, ?_, ?_⟩⟩
    · rw [upd_ne (ne_of_none (s2 _ _ p2) hb)]
      exact s2 _ _ p2
    · rw [List.length_map]
      exact Nat.lt_of_lt_of_le (show as.length < 100 by omega) (by decide)
    · have hbD : b ≠ Dl := fun z => by
        rw [z, s2 _ _ p2] at hb
        cases hb
      have hb0 : H b = none := p1.free (s2.free hb)
      refine ⟨Same.mut ((p1.trans s2).trans (Same.new hb)) hD, as ++ [b], ?_, by rw [List.length_append]; simp; omega, ?_, fun a ha => ?_⟩
      · rw [upd_same, List.map_append]
        rfl
      · refine List.nodup_append.mpr ⟨p4, by simp, fun a ha c hc => ?_⟩
        rw [List.mem_singleton] at hc
        subst hc
        intro z
        subst z
        obtain ⟨_, _, x, y, d⟩ := p5 a ha
        rw [s2 _ _ d] at hb
        cases hb
      · rcases List.mem_append.mp ha with ha | ha
        · obtain ⟨h1, h2, x, y, h3⟩ := p5 a ha
          refine ⟨h1, h2, x, y, ?_⟩
          rw [upd_ne h2, upd_ne (ne_of_none (s2 _ _ h3) hb)]
          exact s2 _ _ h3
        · rw [List.mem_singleton] at ha
          subst ha
          refine ⟨hb0, hbD, c, 0, ?_⟩
          rw [upd_ne hbD, upd_same]
  · exact q Dl as H' p1 hD p2 p4 p5
end

end G9
namespace G9
open PySem PySem.Spec PyProof.Rows L2 G9S
/-! ### rolls within expressions -/
theorem Fd.refl {a : Addr} {H : Hp} (d : Die H a) : Fd a H H := ⟨fun _ _ _ e => e, d⟩
theorem Fd.trans {a : Addr} {H H1 H2 : Hp} (p : Fd a H H1) (q : Fd a H1 H2) : Fd a H H2 := ⟨fun b o hb e => q.k b o hb (p.k b o hb e), q.d⟩
theorem Fd.of {a : Addr} {H H' : Hp} (d : Die H a) (s : Same H H') : Fd a H H' := ⟨fun b o _ e => s b o e, let ⟨x, y, h⟩ := d; ⟨x, y, s _ _ h⟩⟩
theorem Fd.die {a : Addr} {H H' : Hp} (p : Fd a H H') : Die H' a := p.d
/-- a thing that is not the dice's, changed -/
theorem Fd.mut {a b : Addr} {o : HO} {H H' : Hp} (p : Fd a H H') (hb : H b = none) (ha : b ≠ a) : Fd a H (upd H' b o) := ⟨fun c u hc e => by
    rw [upd_ne (ne_of_none e hb)]
    exact p.k c u hc e, let ⟨x, y, h⟩ := p.d; ⟨x, y, by rw [upd_ne (Ne.symm ha)]; exact h⟩⟩
/-- heaps but for the dice -/
structure Fm (a : Addr) (G H G' H' : Hp) : Prop where
  h : ∀ b o, b ≠ a → H b = some o → H' b = some o
  g : Same G G'
  s : Same G' H'
  n : ∀ b, G b = none → H b ≠ none → G' b = none
  d : Die H' a
theorem die_ne {a : Addr} {H : Hp} (d : Die H a) : H a ≠ none := fun z => by
  obtain ⟨x, y, h⟩ := d
  rw [h] at z
  cases z
theorem Fm.refl {a : Addr} {G H : Hp} (s : Same G H) (d : Die H a) : Fm a G H G H := ⟨fun _ _ _ e => e, Same.refl _, s, fun _ e _ => e, d⟩
theorem Fm.trans {a : Addr} {G H G1 H1 G2 H2 : Hp} (p : Fm a G H G1 H1) (q : Fm a G1 H1 G2 H2) : Fm a G H G2 H2 :=
  ⟨fun b o hb e => q.h b o hb (p.h b o hb e), p.g.trans q.g, q.s, fun b e1 e2 => q.n b (p.n b e1 e2) fun z => by
    by_cases hb : b = a
    · subst hb
      exact die_ne p.d z
    · cases e : H b with
      | none => exact e2 e
      | some o => exact absurd (p.h b o hb e) (by rw [z]; exact fun y => nomatch y), q.d⟩
theorem Fr.m {a : Addr} {G H G' H' : Hp} (f : Fr G H G' H') (d : Die H a) : Fm a G H G' H' := ⟨fun b o _ e => f.h b o e, f.g, f.s, f.n, let ⟨x, y, h⟩ := d; ⟨x, y, f.h _ _ h⟩⟩
theorem Fd.m {a : Addr} {G H H' : Hp} (f : Fd a H H') (ga : G a = none) (s : Same G H) : Fm a G H G H' := ⟨f.k, Same.refl _, fun b o e => f.k b o (ne_of_none e ga) (s b o e), fun _ e _ => e, f.d⟩
theorem Fm.out {a l : Addr} {o : HO} {G H G' H' : Hp} (f : Fm a G H G' H') (h1 : G l = none) (hl : l ≠ a) (h2 : H l = some o) : G' l = none ∧ H' l = some o := ⟨f.n l h1 (by rw [h2]; exact fun z => nomatch z), f.h l o hl h2⟩
theorem Fm.dout {a : Addr} {G H G' H' : Hp} (f : Fm a G H G' H') (h1 : G a = none) (d : Die H a) : G' a = none := f.n a h1 (die_ne d)
theorem Fm.mut {a l : Addr} {o : HO} {G H G' H' : Hp} (f : Fm a G H G' H') (h0 : H l = none) (hl : l ≠ a) (h1 : G' l = none) : Fm a G H G' (upd H' l o) := ⟨fun b u hb e => by
    rw [upd_ne (ne_of_none e h0)]
    exact f.h b u hb e, f.g, Same.mut f.s h1, f.n, let ⟨x, y, h⟩ := f.d; ⟨x, y, by rw [upd_ne (Ne.symm hl)]; exact h⟩⟩
theorem Fm.add {a l : Addr} {o : HO} {G H G' H' : Hp} (f : Fm a G H G' H') (h0 : H l = none) (h1 : G' l = none) (h2 : H' l = some o) : Fm a G H (upd G' l o) H' := ⟨f.h, f.g.trans (Same.new h1), fun b u e => by
    by_cases hb : b = l
    · subst hb
      rw [upd_same] at e
      rw [h2]
      exact e
    · rw [upd_ne hb] at e
      exact f.s b u e, fun b e1 e2 => by
    have hb : b ≠ l := fun z => e2 (by rw [z]; exact h0)
    rw [upd_ne hb]
    exact f.n b e1 e2, f.d⟩
theorem Lo.fm {K : PySem.W.Frag} {a l : Addr} {G H G' H' : Hp} {ds : List D} (h : Lo K G H l ds) (hl : l ≠ a) (f : Fm a G H G' H') : Lo K G' H' l ds := by
  obtain ⟨vs, h1, h2⟩ := h.ex
  obtain ⟨g3, h3⟩ := f.out h.out hl h1
  exact ⟨g3, vs, h3, h2.up f.g⟩
section
variable {X : Cx} {σ : L2.St} {H : Hp} {a : Addr} {e2 : Expr} {n : Int} {x : Str} {p px pos : Pos}
/-- _law_roll(dice, e2) -/
theorem w_roll {Q : VK} (F : Fn X.prog X.w X.K X.mg X.base "_law_roll" 2 spRoll) (hr : Room 2 X.A) (i : Nat) (hσ : σ[i]? = some (some (.ref a))) (d : Die H a) (hn : 0 < n ∧ n < 1000000000) (h2 : ∀ Q' : VK, Q' (.int n) H → wE X e2 σ H Q') (q : ∀ r H', 0 ≤ r → r < n → Fd a H H' → Q (.int r) H')
    (hN : X.N[i]? = some x := by rfl) (hv : Vis X.env.scope x := by first | exact Or.inl rfl | exact Or.inr (Or.inl rfl) | exact Or.inr (Or.inr rfl)) (hd : (x == ("__debug__" : Str)) = false := by decide) (hcd : (x == ("__classdict__" : Str)) = false := by decide)
    (hg : Gl X "_law_roll" := by rfl) (he : starEach [.Name x px, e2] X.env = (false, eval (.Name x px) X.env) :: starEach [e2] X.env := by rfl) (he2 : starEach [e2] X.env = (false, eval e2 X.env) :: starEach [] X.env := by rfl) (hpl : (backTo pos (starEach [e2] X.env)).any (·.1) = false := by rfl) :
    wE X (.Call (.Name "_law_roll" p) [.Name x px, e2] [] pos) σ H Q := by
  obtain ⟨f, fd, ps, CX, F1, hm, hk, hb, hx⟩ := F.ex
  refine wE_of (pe_call F1 hr hg hm hk hb .nil (hx X rfl rfl) (pa_cons (pe_var hN hv hd hcd) (pa_cons pw pa_nil he2) he) (by decide) he hpl) ?_
  exact ⟨_, hσ, h2 _ ⟨a, n, rfl, hn.1, hn.2, d, q⟩⟩
theorem w_int {Q : VK} {i : Int} {j} (q : Q (.int i) H) : wE X (.Constant (.int i) j pos) σ H Q := wE_of pe_int q
theorem w_var {Q : VK} {v : V} (i : Nat) (hσ : σ[i]? = some (some v)) (q : Q v H) (hN : X.N[i]? = some x := by rfl) (hv : Vis X.env.scope x := by first | exact Or.inl rfl | exact Or.inr (Or.inl rfl) | exact Or.inr (Or.inr rfl)) (hd : (x == ("__debug__" : Str)) = false := by decide)
    (hcd : (x == ("__classdict__" : Str)) = false := by decide) : wE X (.Name x pos) σ H Q := wE_of (pe_var hN hv hd hcd) ⟨_, hσ, q⟩
/-- [t for t in range(e) if T], T rolls -/
theorem w_pick {Q : VK} {T er : Expr} {t : Str} {pt pn p2 pr : Pos} {scope : Scope} (j i : Nat) (hij : i ≠ j) (hjl : j < σ.length) (hσ : σ[i]? = some (some (.ref a))) (d : Die H a) (hn : 0 ≤ n ∧ n ≤ 1000) (hm : X.mg "range" = none) (h2 : ∀ Q' : VK, Q' (.int n) H → wE X er σ H Q')
    (hT : ∀ (s : Shared) (Hx : Hp) (C : Addr) (cl : List (Str × Addr)) (fp : List Addr) (σ' : L2.St) (H' : Hp) (Q' : Bool → Hp → Prop), σ'[i]? = some (some (.ref a)) → Die H' a → (∀ b H'', Fd a H' H'' → Q' b H'') → wT (X.blk s Hx scope (compEnvC scope cl C X.env) fp) T σ' H' Q')
    (q : ∀ l (ks : List Nat) H', H l = none → Fd a H H' → H' l = some (.lst (ks.map fun (k : Nat) => V.int (k : Int))) → ks.Sublist (List.range n.toNat) → Q (.ref l) H') (hN : X.N.Nodup := by assumption)
    (hg : ∀ (s : Shared) (H : Hp) (C : Addr) (cl : List (Str × Addr)) (fp : List Addr), PG (X.blk s H scope (compEnvC scope cl C X.env) fp) (.Name t pn) (gName j) := by first | exact fun _ _ _ _ _ => pg_name (by assumption) rfl (Or.inl rfl) | exact fun _ _ _ _ _ => pg_name (by assumption) rfl (Or.inr rfl))
    (hv : ∀ (s : Shared) (H : Hp) (C : Addr) (cl : List (Str × Addr)) (fp : List Addr), PE (X.blk s H scope (compEnvC scope cl C X.env) fp) (.Name t pt) (tVar j) := by exact fun _ _ _ _ _ => pv _)
    (ok : BlkOk X.N X.env.scope scope [(t, j)] := by exact blkOk_by (by first | kernel_rfl | rfl)) (hc : X.calm = true := by rfl) (hs : ∀ x, foldedSetIterable (.Call (.Name "range" pr) [er] [] p2) X.env x = pure x := by intro _; rfl) (hgl : Gl X "range" := by rfl) (hst : starEach [er] X.env = [(false, eval er X.env)] := by rfl)
    (hst2 : starEach [er] X.env = (false, eval er X.env) :: starEach [] X.env := by rfl) :
    wE X (.ListComp (.Name t pt) [⟨.Name t pn, .Call (.Name "range" pr) [er] [] p2, [T], 0⟩] scope pos) σ H Q := by
  refine wE_of (pe_lc (tt := bT X scope [T]) (te := tVar j) (own := [(t, j)]) hc hN (pi_range1 hgl hm (pa_cons pw pa_nil hst2) hst) ok hg (fun s H C cl fp => ⟨fun pins s1 σ1 H1 Q1 I h => h s H C cl fp pins s1 I⟩) hv hs) ?_
  refine h2 _ ⟨n, rfl, by omega, by omega, fun Dl hD => ?_⟩
  have hDa : Dl ≠ a := fun z => die_ne d (z ▸ hD)
  refine lc_range (lo := 0) (n := n.toNat) (fun k H' => Fd a H H' ∧ ∃ ks : List Nat, H' Dl = some (.lst (ks.map fun (k : Nat) => V.int (k : Int))) ∧ ks.Sublist (List.range k) ∧ ks.length ≤ k) ⟨(Fd.refl d).mut hD hDa, [], upd_same, List.nil_sublist _, Nat.zero_le _⟩ (fun k H' hk ⟨p1, ks, p2, p3, p4⟩ => ?_) fun H' ⟨p1, ks, p2, p3, _⟩ => q Dl ks H' hD p1 p2 p3
  have hwi : ((wipe σ [j]).set j (some (.int (0 + (k : Int)))))[i]? = some (some (.ref a)) := by
    show ((σ.set j none).set j _)[i]? = _
    rw [List.getElem?_set_ne (Ne.symm hij), List.getElem?_set_ne (Ne.symm hij)]
    exact hσ
  refine ⟨?_, fun s Hx C cl fp pins s1 I => (pts_one ptw).run pins s1 _ _ _ I (hT s Hx C cl fp _ H' _ hwi p1.d fun b H2 f2 => ?_)⟩
  · show ((σ.set j none).set j (some _)).set j none = σ.set j none
    rw [List.set_set, List.set_set]
  · have p2' := f2.k _ _ hDa p2
    cases b with
    | false =>
      rw [if_neg (by decide)]
      exact ⟨p1.trans f2, ks, p2', p3.trans (List.range_sublist.mpr (Nat.le_succ k)), Nat.le_succ_of_le p4⟩
    | true =>
      rw [if_pos rfl]
      refine ⟨V.int (0 + (k : Int)), ?_, _, p2', ?_, (p1.trans f2).mut hD hDa, ks ++ [k], ?_, ?_, ?_⟩
      · show ((σ.set j none).set j (some _))[j]? = _
        rw [List.getElem?_set_self (by rw [List.length_set]; exact hjl)]
      · rw [List.length_map]
        exact Nat.lt_of_le_of_lt (show ks.length ≤ 1000 by omega) (by decide)
      · rw [upd_same, List.map_append]
        simp
      · rw [List.range_succ]
        exact List.Sublist.append p3 (List.Sublist.refl _)
      · rw [List.length_append]
        simp
        omega
end

end G9
namespace G9
open PySem PySem.Spec PyProof.Rows L2 G9S
/-! ### the law's level: what is drawn may be anything; all but the die and the tables stays -/
open L2H HotX
def noT (G : Hp) : Hp := fun b => match G b with
  | some (.tbl _) => none
  | o => o
theorem noT_sub {G : Hp} {b : Addr} {o : HO} (h : noT G b = some o) : G b = some o ∧ ∀ ps, o ≠ .tbl ps := by
  unfold noT at h
  split at h
  · cases h
  · rename_i q
    refine ⟨h, fun ps z => ?_⟩
    subst z
    exact q ps h
theorem noT_of {G : Hp} {b : Addr} {o : HO} (h : G b = some o) (n : ∀ ps, o ≠ .tbl ps) : noT G b = some o := by
  unfold noT
  split
  · rename_i ps q
    rw [h] at q
    cases q
    exact absurd rfl (n ps)
  · exact h
theorem noT_none {G : Hp} {b : Addr} (h : G b = none) : noT G b = none := by
  unfold noT
  rw [h]
theorem kp_noT {G : Hp} : Kp G (noT G) := fun b o e h => noT_of e fun ps z => by
  subst z
  cases h
def mutO : HO → Bool
  | .lst _ => true
  | .ins _ _ _ => true
  | _ => false
theorem tabs_but {T : List (Addr × Str)} {H H' : Hp} {x : Addr} {o : HO} (t : LamX.Tabs T H) (hx : H x = some o) (hm : mutO o = true) (k : ∀ b u, b ≠ x → H b = some u → H' b = some u) : LamX.Tabs T H' := fun p hp => by
  obtain ⟨ps, h1, h2, h3⟩ := t p hp
  have n1 : p.1 ≠ x := fun z => by
    rw [z, hx] at h1
    cases h1
    cases hm
  refine ⟨ps, k _ _ n1 h1, h2, fun pos cv hc => ?_⟩
  obtain ⟨c, e1, e2⟩ := h3 pos cv hc
  have n2 : c ≠ x := fun z => by
    rw [z, hx] at e2
    cases e2
    cases hm
  exact ⟨c, e1, k _ _ n2 e2⟩
abbrev Tbs := List (Addr × Str)
structure Fw (T : Tbs) (a : Addr) (G H G' H' : Hp) : Prop where
  h : ∀ b o, b ≠ a → (∀ ps, o ≠ .tbl ps) → H b = some o → H' b = some o
  g : Kp G G'
  s : Same G' H'
  n : ∀ b o, G b = none → H b = some o → (∀ ps, o ≠ .tbl ps) → G' b = none
  d : Die H' a
  t : LamX.Tabs T H'
structure Wz (T : Tbs) (Hs : Hp) (a : Addr) (G H : Hp) : Prop where
  s : Same G H
  ga : G a = none
  da : Die H a
  tb : LamX.Tabs T H
  fr : ∀ c o, c ≠ a → (∀ ps, o ≠ .tbl ps) → Hs c = some o → H c = some o
section
variable {T : Tbs} {Hs : Hp} {a : Addr} {G H G' H' : Hp}
theorem die_at {H : Hp} {a : Addr} (d : Die H a) : ∃ o, H a = some o ∧ ∀ ps, o ≠ .tbl ps := let ⟨x, y, q⟩ := d; ⟨_, q, fun _ z => nomatch z⟩
theorem Fw.trans {G1 H1 G2 H2 : Hp} (p : Fw T a G H G1 H1) (q : Fw T a G1 H1 G2 H2) : Fw T a G H G2 H2 :=
  ⟨fun b o h1 h2 h3 => q.h b o h1 h2 (p.h b o h1 h2 h3), p.g.trans q.g, q.s, fun b o h1 h2 h3 => by
    by_cases e : b = a
    · subst e
      obtain ⟨o', e1, e2⟩ := die_at p.d
      exact q.n b o' (p.n b o h1 h2 h3) e1 e2
    · exact q.n b o (p.n b o h1 h2 h3) (p.h b o e h3 h2) h3, q.d, q.t⟩
theorem Wz.refl (w : Wz T Hs a G H) : Fw T a G H G H := ⟨fun _ _ _ _ h => h, Kp.refl, w.s, fun _ _ h _ _ => h, w.da, w.tb⟩
theorem Wz.fw (w : Wz T Hs a G H) (f : Fw T a G H G' H') : Wz T Hs a G' H' := by
  obtain ⟨o', e1, e2⟩ := die_at w.da
  exact ⟨f.s, f.n a o' w.ga e1 e2, f.d, f.t, fun c o h1 h2 h3 => f.h c o h1 h2 (w.fr c o h1 h2 h3)⟩
theorem Wz.ofFr (w : Wz T Hs a G H) (f : Fr G H G' H') : Fw T a G H G' H' := by
  obtain ⟨x, y, q⟩ := w.da
  exact ⟨fun b o _ _ h => f.h b o h, Kp.of f.g, f.s, fun b o h1 h2 _ => f.n b h1 (by rw [h2]; exact fun z => nomatch z), ⟨x, y, f.h _ _ q⟩, w.tb.ext f.h⟩
theorem Wz.ofFm (w : Wz T Hs a G H) (f : Fm a G H G' H') : Fw T a G H G' H' := by
  obtain ⟨x, y, hx⟩ := w.da
  exact ⟨fun b o hb _ h => f.h b o hb h, Kp.of f.g, f.s, fun b o h1 h2 _ => f.n b h1 (by rw [h2]; exact fun z => nomatch z), f.d, tabs_but w.tb hx rfl f.h⟩
theorem Wz.lam (w : Wz T Hs a G H) (e : LamX.ExtN H H') (t : LamX.Tabs T H') : Fw T a G H (noT G) H' := by
  obtain ⟨x, y, hx⟩ := w.da
  refine ⟨fun b o _ h1 h2 => e _ _ h2 h1, kp_noT, fun c o q => ?_, fun b o h1 _ _ => noT_none h1, ⟨x, y, e _ _ hx fun _ z => nomatch z⟩, t⟩
  obtain ⟨q1, q2⟩ := noT_sub q
  exact e _ _ (w.s _ _ q1) q2
theorem Lo.fw {K : PySem.W.Frag} {l : Addr} {ds : List D} (h : Lo K G H l ds) (hl : l ≠ a) (f : Fw T a G H G' H') : Lo K G' H' l ds := by
  obtain ⟨vs, h1, h2⟩ := h.ex
  exact ⟨f.n l _ h.out h1 (fun _ z => nomatch z), vs, f.h l _ hl (fun _ z => nomatch z) h1, h2.kp f.g⟩
end
/-! ### judgements -/
def EvP (X : Cx) (T : Tbs) (a : Addr) (ρ : Ro) (e : Expr) (P : D → Prop) : Prop := ∀ (Hs : Hp) (σ : L2.St) (G H : Hp), Wz T Hs a G H → En X.K G σ ρ → ∀ Q : VK, (∀ v d G' H', Fw T a G H G' H' → Rp X.K G' v d → P d → Q v H') → wE X e σ H Q
def EvPT (X : Cx) (T : Tbs) (a : Addr) (ρ : Ro) (e : Expr) (P : Bool → Prop) : Prop := ∀ (Hs : Hp) (σ : L2.St) (G H : Hp), Wz T Hs a G H → En X.K G σ ρ → ∀ Q : Bool → Hp → Prop, (∀ b G' H', Fw T a G H G' H' → P b → Q b H') → wT X e σ H Q
def EvPA (X : Cx) (T : Tbs) (a : Addr) (ρ : Ro) (es : List Expr) (P : List D → Prop) : Prop := ∀ (Hs : Hp) (σ : L2.St) (G H : Hp), Wz T Hs a G H → En X.K G σ ρ → ∀ Q : List V → Hp → Prop, (∀ vs ds G' H', Fw T a G H G' H' → RpL X.K G' vs ds → P ds → Q vs H') → wA X es σ H Q
section
variable {X : Cx} {T : Tbs} {a : Addr} {ρ : Ro} {e e1 e2 c : Expr} {es : List Expr} {d : D} {ds : List D} {P P1 P2 : D → Prop} {pos p p2 : Pos} {x : Str}
theorem p_of (h : Ev X Nil ρ e d) : EvP X T a ρ e (· = d) := fun Hs σ G H w en Q q => h σ G H same_nil w.s en Q fun v G' H' f r => q v d G' H' (w.ofFr f) r rfl
theorem pt_of {b : Bool} (h : EvT X Nil ρ e b) : EvPT X T a ρ e (· = b) := fun Hs σ G H w en Q q => h σ G H same_nil w.s en Q fun G' H' f => q b G' H' (w.ofFr f) rfl
theorem pa_of (h : EvA X Nil ρ es ds) : EvPA X T a ρ es (· = ds) := fun Hs σ G H w en Q q => h σ G H same_nil w.s en Q fun v G' H' f r => q v ds G' H' (w.ofFr f) r rfl
theorem EvP.imp (h : EvP X T a ρ e P1) (m : ∀ d, P1 d → P2 d) : EvP X T a ρ e P2 := fun Hs σ G H w en Q q => h Hs σ G H w en Q fun v d G' H' f r hp => q v d G' H' f r (m d hp)
theorem EvPT.imp {P1 P2 : Bool → Prop} (h : EvPT X T a ρ e P1) (m : ∀ d, P1 d → P2 d) : EvPT X T a ρ e P2 := fun Hs σ G H w en Q q => h Hs σ G H w en Q fun d G' H' f hp => q d G' H' f (m d hp)
theorem EvPA.imp {P1 P2 : List D → Prop} (h : EvPA X T a ρ es P1) (m : ∀ d, P1 d → P2 d) : EvPA X T a ρ es P2 := fun Hs σ G H w en Q q => h Hs σ G H w en Q fun v d G' H' f r hp => q v d G' H' f r (m d hp)
theorem p_nil : EvPA X T a ρ [] (· = []) := pa_of a_nil
theorem p_cons {P2 : List D → Prop} {P : List D → Prop} (ha : EvP X T a ρ e P1) (hr : EvPA X T a ρ es P2) (hp : ∀ d ds, P1 d → P2 ds → P (d :: ds)) (hs : starEach (e :: es) X.env = (false, eval e X.env) :: starEach es X.env := by rfl) : EvPA X T a ρ (e :: es) P := fun Hs σ G H w en Q q =>
  wA_of (pa_cons pw paw hs) (ha Hs σ G H w en _ fun v d G1 H1 f1 r1 h1 => hr Hs σ G1 H1 (w.fw f1) (en.kp f1.g) _ fun vs ds G2 H2 f2 r2 h2 => q _ (d :: ds) G2 H2 (f1.trans f2) (.cons (r1.kp f2.g) r2) (hp d ds h1 h2))
theorem p_two (ha : EvP X T a ρ e1 P1) (hb : EvP X T a ρ e2 P2) {Hs : Hp} {σ : L2.St} {G H : Hp} (w : Wz T Hs a G H) (en : En X.K G σ ρ) {R : V → V → Hp → Prop} (q : ∀ x y dx dy G' H', Fw T a G H G' H' → Rp X.K G' x dx → Rp X.K G' y dy → P1 dx → P2 dy → R x y H') :
    wE X e1 σ H fun x H1 => wE X e2 σ H1 fun y H2 => R x y H2 :=
  ha Hs σ G H w en _ fun v dv G1 H1 f1 r1 h1 => hb Hs σ G1 H1 (w.fw f1) (en.kp f1.g) _ fun u du G2 H2 f2 r2 h2 => q v u dv du G2 H2 (f1.trans f2) (r1.kp f2.g) r2 h1 h2
theorem p_op {op : Operator} {r : R2} (ho : OpR X (binaryOp op) r) (ha : EvP X T a ρ e1 P1) (hb : EvP X T a ρ e2 P2) (hr : ∀ da db, P1 da → P2 db → ∃ d, P d ∧ Rd2 X.K Nil r da db d) : EvP X T a ρ (.BinOp e1 op e2 pos) P := fun Hs σ G H w en Q q =>
  wE_of (pe_op ho pw pw) (p_two ha hb w en fun x y dx dy G1 H1 f1 r1 r2 h1 h2 => by
    obtain ⟨d, hd, k⟩ := hr dx dy h1 h2
    exact k x y G1 H1 same_nil f1.s r1 r2 Q fun z G3 H3 f3 r3 => q z d G3 H3 (f1.trans ((w.fw f1).ofFr f3)) r3 hd)
theorem p_ix {r : R2} (ho : IxR X r) (ha : EvP X T a ρ e1 P1) (hb : EvP X T a ρ e2 P2) (hr : ∀ da db, P1 da → P2 db → ∃ d, P d ∧ Rd2 X.K Nil r da db d) (hs : PlainIx e2 := by exact fun _ _ => rfl) : EvP X T a ρ (.Subscript e1 e2 pos) P := fun Hs σ G H w en Q q =>
  wE_of (pe_ix ho pw pw hs) (p_two ha hb w en fun x y dx dy G1 H1 f1 r1 r2 h1 h2 => by
    obtain ⟨d, hd, k⟩ := hr dx dy h1 h2
    exact k x y G1 H1 same_nil f1.s r1 r2 Q fun z G3 H3 f3 r3 => q z d G3 H3 (f1.trans ((w.fw f1).ofFr f3)) r3 hd)
theorem pt_cmpP {op : CmpOp} {r : R2} {P : Bool → Prop} (ho : OpR X (compareOp op) r) (ha : EvP X T a ρ e1 P1) (hb : EvP X T a ρ e2 P2) (hr : ∀ da db, P1 da → P2 db → ∃ b, P b ∧ Rd2 X.K Nil r da db (.bl b)) (hm : behindInMarks op e2 = false := by first | exact nomark _ | rfl) : EvPT X T a ρ (.Compare e1 [op] [e2] pos) P := fun Hs σ G H w en Q q =>
  wT_of (pt_cmpR ho pw pw hm) (p_two ha hb w en fun x y dx dy G1 H1 f1 r1 r2 h1 h2 => by
    obtain ⟨b, hd, k⟩ := hr dx dy h1 h2
    exact k x y G1 H1 same_nil f1.s r1 r2 _ fun z G3 H3 f3 r3 => ⟨b, r3.bl_of, q b G3 H3 (f1.trans ((w.fw f1).ofFr f3)) hd⟩)
theorem pt_val' {P : Bool → Prop} (h : EvP X T a ρ e fun d => ∃ b, d = .bl b ∧ P b) (he : ∀ whole, isTrue e X.env whole = (do let v ← whole; standAt e.pos; holding [v] (truthy v)) := by intro _; rfl) : EvPT X T a ρ e P := fun Hs σ G H w en Q q =>
  wT_of (pt_val pw he) (h Hs σ G H w en _ fun v d G1 H1 f1 r1 ⟨b, e, hb⟩ => by
    subst e
    exact ⟨b, r1.bl_of, q b G1 H1 f1 hb⟩)
theorem pt_not' {P : Bool → Prop} (h : EvPT X T a ρ e fun b => P (!b)) : EvPT X T a ρ (.UnaryOp .Not e pos) P := fun Hs σ G H w en Q q => wT_of (pt_not ptw) (h Hs σ G H w en _ fun b G1 H1 f1 hb => q _ G1 H1 f1 hb)
theorem p_tup {k} {P : List D → Prop} (h : EvPA X T a ρ es P) (hz : ∀ ds, P ds → ds.length ≤ 100000) : EvP X T a ρ (.Tuple es k pos) (fun d => ∃ ds, d = .tup ds ∧ P ds) := fun Hs σ G H w en Q q =>
  wE_of (pe_tup paw) (h Hs σ G H w en _ fun vs ds G1 H1 f1 r1 h1 => ⟨by rw [r1.length]; exact Nat.le_trans (hz ds h1) (by decide), fun p hp => q _ (.tup ds) _ _ (f1.trans ((w.fw f1).ofFr (Fr.new f1.s hp))) (.tup (.inl (.inl upd_same)) (r1.up (Same.new (f1.s.free hp)))) ⟨ds, rfl, h1⟩⟩)
theorem p_lst {P : List D → Prop} (h : EvPA X T a ρ es P) (hz : ∀ ds, P ds → ds.length ≤ 100000) : EvP X T a ρ (.List es pos) (fun d => ∃ ds, d = .lst ds ∧ P ds) := fun Hs σ G H w en Q q =>
  wE_of (pe_lst paw) (h Hs σ G H w en _ fun vs ds G1 H1 f1 r1 h1 => ⟨by rw [r1.length]; exact Nat.le_trans (hz ds h1) (by decide), fun p hp => q _ (.lst ds) _ _ (f1.trans ((w.fw f1).ofFr (Fr.new f1.s hp))) (.lst upd_same (r1.up (Same.new (f1.s.free hp)))) ⟨ds, rfl, h1⟩⟩)
/-- a def that leaves the die alone -/
theorem p_call {k : Nat} {R : List D → D → Prop} {PA : List D → Prop} (F : Fn X.prog X.w X.K X.mg X.base x k (spR X.K R)) (hr : Room k X.A) (ha : EvPA X T a ρ (e :: es) PA) (hR : ∀ ds, PA ds → ∃ d, R ds d ∧ P d) (hg : Gl X x := by rfl) (hdb : (x == ("__debug__" : Str)) = false := by decide)
    (he : starEach (e :: es) X.env = (false, eval e X.env) :: starEach es X.env := by rfl) (hpl : (backTo pos (starEach es X.env)).any (·.1) = false := by rfl) : EvP X T a ρ (.Call (.Name x p) (e :: es) [] pos) P := fun Hs σ G H w en Q q => by
  obtain ⟨f, fd, ps, CX, F1, hm, hk, hb, hx⟩ := F.ex
  refine wE_of (pe_call F1 hr hg hm hk hb .nil (hx X rfl rfl) paw hdb he hpl) (ha Hs σ G H w en _ fun vs ds G1 H1 f1 r1 h1 => ?_)
  rw [List.append_nil]
  obtain ⟨d, h2, h3⟩ := hR ds h1
  exact ⟨ds, d, G1, f1.s, r1, h2, fun v G2 H2 f2 r2 => q v d G2 H2 (f1.trans ((w.fw f1).ofFr f2)) r2 h3⟩
/-- tuple(e) -/
theorem p_tuple {P : List D → Prop} (B : Blt X.mg) (h : EvP X T a ρ e (fun d => ∃ ds, d = .lst ds ∧ P ds)) (hg : Gl X "tuple" := by rfl) (he : starEach [e] X.env = (false, eval e X.env) :: starEach [] X.env := by rfl) (hpl : (backTo pos (starEach [] X.env)).any (·.1) = false := by rfl) :
    EvP X T a ρ (.Call (.Name "tuple" p) [e] [] pos) (fun d => ∃ ds, d = .tup ds ∧ P ds) := fun Hs σ G H w en Q q =>
  wE_of (pe_callTy call_tuple_of hg B.tuple_ (by decide +kernel) paw (by decide) (by decide) he hpl) (p_cons (P := fun ds => ∃ d, ds = [d] ∧ ∃ es, d = .lst es ∧ P es) h p_nil (fun d ds h1 h2 => ⟨d, by rw [h2], h1⟩) he Hs σ G H w en _ fun vs ds G1 H1 f1 r1 ⟨d, e1, es, e2, h1⟩ => by
    subst e1
    subst e2
    exact rc_tupL (K := X.K) (H0 := Nil) vs G1 H1 same_nil f1.s r1 Q fun z G3 H3 f3 r3 => q z _ G3 H3 (f1.trans ((w.fw f1).ofFr f3)) r3 ⟨es, rfl, h1⟩)
/-- a def that rolls the die at a -/
def spZ (K : PySem.W.Frag) (R : List D → D → Prop) (Pre : List D → Prop) : Sp := fun vs H Q _ => ∃ (a : Addr) (us : List V) (ds : List D) (G : Hp), vs = .ref a :: us ∧ Same G H ∧ G a = none ∧ Die H a ∧ RpL K G us ds ∧ Pre ds ∧ ∀ v d G' H', Fm a G H G' H' → R ds d → Rp K G' v d → Q v H'
theorem p_callZ {k : Nat} {R : List D → D → Prop} {Pre PA : List D → Prop} {y : Str} {py : Pos} (i : Nat) (F : Fn X.prog X.w X.K X.mg X.base x k (spZ X.K R Pre)) (hr : Room k X.A) (ha : EvPA X T a ρ es PA) (hR : ∀ ds, PA ds → Pre ds ∧ ∀ d, R ds d → P d) (hi : ρ[i]? = some (some (.ref a)) := by rfl) (hg : Gl X x := by rfl) (hdb : (x == ("__debug__" : Str)) = false := by decide)
    (hN : X.N[i]? = some y := by rfl) (hv : Vis X.env.scope y := by first | exact Or.inl rfl | exact Or.inr (Or.inl rfl) | exact Or.inr (Or.inr rfl)) (hd : (y == ("__debug__" : Str)) = false := by decide) (hcd : (y == ("__classdict__" : Str)) = false := by decide)
    (he : starEach (.Name y py :: es) X.env = (false, eval (.Name y py) X.env) :: starEach es X.env := by rfl) (hpl : (backTo pos (starEach es X.env)).any (·.1) = false := by rfl) : EvP X T a ρ (.Call (.Name x p) (.Name y py :: es) [] pos) P := fun Hs σ G H w en Q q => by
  obtain ⟨f, fd, ps, CX, F1, hm, hk, hb, hx⟩ := F.ex
  refine wE_of (pe_call F1 hr hg hm hk hb .nil (hx X rfl rfl) paw hdb he hpl) (p_cons (P := fun ds => ∃ es, ds = .ref a :: es ∧ PA es) (p_of (e_v i hi hN hv hd hcd)) ha (fun d ds h1 h2 => ⟨ds, by rw [h1], h2⟩) he Hs σ G H w en _ fun vs ds G1 H1 f1 r1 h1 => ?_)
  rw [List.append_nil]
  obtain ⟨es, rfl, h1⟩ := h1
  cases r1 with
  | cons ra r1 =>
    obtain rfl := ra.ref_of
    have w1 := w.fw f1
    obtain ⟨h2, h3⟩ := hR es h1
    exact ⟨a, _, es, G1, rfl, w1.s, w1.ga, w1.da, r1, h2, fun v d G2 H2 m2 h4 r2 => q v d G2 H2 (f1.trans (w1.ofFm m2)) r2 (h3 d h4)⟩
/-- _law_roll(dice, e) -/
theorem p_roll {y : Str} {py : Pos} {n : Int} (i : Nat) (F : Fn X.prog X.w X.K X.mg X.base "_law_roll" 2 spRoll) (hr : Room 2 X.A) (ha : EvP X T a ρ e (· = .int n)) (hn : 0 < n ∧ n < 1000000000) (hi : ρ[i]? = some (some (.ref a)) := by rfl) (hg : Gl X "_law_roll" := by rfl)
    (hN : X.N[i]? = some y := by rfl) (hv : Vis X.env.scope y := by first | exact Or.inl rfl | exact Or.inr (Or.inl rfl) | exact Or.inr (Or.inr rfl)) (hd : (y == ("__debug__" : Str)) = false := by decide) (hcd : (y == ("__classdict__" : Str)) = false := by decide)
    (he : starEach [.Name y py, e] X.env = (false, eval (.Name y py) X.env) :: starEach [e] X.env := by rfl) (he2 : starEach [e] X.env = (false, eval e X.env) :: starEach [] X.env := by rfl) (hpl : (backTo pos (starEach [e] X.env)).any (·.1) = false := by rfl) :
    EvP X T a ρ (.Call (.Name "_law_roll" p) [.Name y py, e] [] pos) (fun d => ∃ r : Int, d = .int r ∧ 0 ≤ r ∧ r < n) := fun Hs σ G H w en Q q => by
  obtain ⟨f, fd, ps, CX, F1, hm, hk, hb, hx⟩ := F.ex
  refine wE_of (pe_call F1 hr hg hm hk hb .nil (hx X rfl rfl) paw (by decide) he hpl) (p_cons (P := fun ds => ds = [.ref a, .int n]) (p_of (e_v i hi hN hv hd hcd)) (p_cons (P := fun ds => ds = [.int n]) ha p_nil (fun d ds h1 h2 => by rw [h1, h2]) he2) (fun d ds h1 h2 => by rw [h1, h2]) he Hs σ G H w en _ fun vs ds G1 H1 f1 r1 h1 => ?_)
  rw [List.append_nil]
  subst h1
  cases r1 with
  | cons ra r1 =>
    cases r1 with
    | cons rb r1 =>
      cases r1
      obtain rfl := ra.ref_of
      obtain rfl := rb.int_of
      have w1 := w.fw f1
      exact ⟨a, n, rfl, hn.1, hn.2, w1.da, fun r H2 h0 h2 fd2 => q _ (.int r) G1 H2 (f1.trans (w1.ofFm (fd2.m w1.ga w1.s))) (.int r) ⟨r, rfl, h0, h2⟩⟩
end
/-- the source of a loop of the law's level -/
def EvJ (X : Cx) (ρ : Ro) (iter : Expr) (ds : List D) : Prop := ∃ wi : TI, (∀ tg, PI X tg iter wi) ∧ ∀ (σ : L2.St) (G H : Hp), Same G H → En X.K G σ ρ → ∀ R : It → Hp → Prop,
  (∀ (J : It) (G1 H1 : Hp), Fr G H G1 H1 → (∀ (i : Nat) (G2 H2 : Hp), Kp G1 G2 → Same G2 H2 → (ds.length ≤ i → J.stop i H2) ∧ (∀ d, ds[i]? = some d → J.go i H2 ∧ ∀ x H3, J.yld i H2 x H3 → ∃ G3, Fr G2 H2 G3 H3 ∧ Rp X.K G3 x d)) → R J H1) → wi σ H R
section
variable {X : Cx} {ρ : Ro} {iter a : Expr} {ds : List D} {pos p : Pos}
theorem EvJ.is {ds' : List D} (h : EvJ X ρ iter ds) (e : ds = ds') : EvJ X ρ iter ds' := e ▸ h
theorem j_tup (h : Ev X Nil ρ iter (.tup ds)) : EvJ X ρ iter ds := by
  refine ⟨iTup X.K (wE X iter), fun tg => pi_tup pw, fun σ G H sh en R q => h σ G H same_nil sh en _ fun v G1 H1 f1 r1 => ?_⟩
  obtain ⟨a, xs, e, hs, r⟩ := r1.tup_of
  refine ⟨a, e, ⟨xs, Same.sqT f1.s hs⟩, q _ G1 H1 f1 fun i G2 H2 s12 s2 => ⟨fun hl => ⟨xs, Same.sqT s2 (Kp.sqT s12 hs), by rw [r.length]; exact hl⟩, fun d hd => ?_⟩⟩
  obtain ⟨v2, hv, rv⟩ := r.get hd
  exact ⟨⟨xs, v2, Same.sqT s2 (Kp.sqT s12 hs), hv⟩, fun x H3 y => ⟨G2, by
    rw [y.1]
    exact Fr.refl s2, by
    have := y.2 xs (Same.sqT s2 (Kp.sqT s12 hs))
    rw [hv] at this
    cases this
    exact rv.kp s12⟩⟩
theorem j_lst (h : Ev X Nil ρ iter (.lst ds)) : EvJ X ρ iter ds := by
  refine ⟨iList X.K (wE X iter), fun tg => pi_list pw, fun σ G H sh en R q => h σ G H same_nil sh en _ fun v G1 H1 f1 r1 => ?_⟩
  obtain ⟨a, xs, e, hs, r⟩ := r1.lst_of
  refine ⟨a, e, ⟨xs, SqL.of (f1.s _ _ hs)⟩, q _ G1 H1 f1 fun i G2 H2 s12 s2 => ⟨fun hl => ⟨xs, SqL.of (s2 _ _ (s12 _ _ hs rfl)), by rw [r.length]; exact hl⟩, fun d hd => ?_⟩⟩
  obtain ⟨v2, hv, rv⟩ := r.get hd
  exact ⟨⟨xs, v2, SqL.of (s2 _ _ (s12 _ _ hs rfl)), hv⟩, fun x H3 y => ⟨G2, by
    rw [y.1]
    exact Fr.refl s2, by
    have := y.2 xs (SqL.of (s2 _ _ (s12 _ _ hs rfl)))
    rw [hv] at this
    cases this
    exact rv.kp s12⟩⟩
theorem j_range1 {n : Int} (hm : X.mg "range" = none) (h : Ev X Nil ρ a (.int n)) (hn : -1000000 ≤ n ∧ n ≤ 1000000) (hg : Gl X "range" := by rfl) (hs : starEach [a] X.env = [(false, eval a X.env)] := by rfl) (hs2 : starEach [a] X.env = (false, eval a X.env) :: starEach [] X.env := by rfl) :
    EvJ X ρ (.Call (.Name "range" p) [a] [] pos) ((List.range n.toNat).map fun (i : Nat) => D.int (i : Int)) := by
  refine ⟨iRng1 (wA X [a]), fun tg => pi_range1 hg hm paw hs, fun σ G H sh en R q => a_cons h a_nil hs2 σ G H same_nil sh en _ fun vs G1 H1 f1 r1 => ?_⟩
  cases r1 with
  | cons r1 r2 =>
    cases r2
    obtain rfl := r1.int_of
    refine ⟨n, rfl, by omega, by omega, q _ G1 H1 f1 fun i G2 H2 s12 s2 => ⟨fun hl => ?_, fun d hd => ?_⟩⟩
    · rw [List.length_map, List.length_range] at hl
      exact hl
    · rw [List.getElem?_map] at hd
      by_cases hi : i < n.toNat
      · rw [List.getElem?_range hi] at hd
        cases hd
        refine ⟨hi, fun x H3 y => ⟨G2, by rw [y.1]; exact Fr.refl s2, ?_⟩⟩
        rw [y.2, Int.zero_add]
        exact .int _
      · rw [List.getElem?_eq_none (by rw [List.length_range]; omega)] at hd
        cases hd
end
/-! ### statements -/
section
variable {X : Cx} {T : Tbs} {Hs : Hp} {a : Addr} {ρ : Ro} {e c : Expr} {P : D → Prop} {pos p : Pos} {x : Str} {σ : L2.St} {G H : Hp} {rest sa sb : List Stmt} {N : Ends}
theorem z_asg (i : Nat) (h : EvP X T a ρ e P) (w : Wz T Hs a G H) (en : En X.K G σ ρ) (k : ∀ d, P d → ∀ σ' G' H', Fw T a G H G' H' → Wz T Hs a G' H' → En X.K G' σ' (ρ.set i (some d)) → wB X rest N σ' H') (hN : X.N.Nodup := by assumption) (hi : X.N[i]? = some x := by rfl)
    (hx : Loc X.env.scope x := by first | exact Or.inl rfl | exact Or.inr rfl) (hs : swapsWith e (some (.Name x p)) pos.line X.env = pure false := by rfl) (hf : X.fn x = true ∨ X.env.scope.names.lookup x = some .local := by first | exact .inl rfl | exact .inr rfl | assumption) :
    wB X (.Assign [.Name x p] e pos :: rest) N σ H :=
  wB_cons (wS_of (ps_set hN hi hx pw hs hf) (h Hs σ G H w en _ fun v d G1 H1 f1 r1 hp => k d hp _ G1 H1 f1 (w.fw f1) ((en.kp f1.g).set i r1)))
/-- a, b = e1, e2 -/
theorem z_par {y : Str} {px py pt : Pos} {kt k2 pt2} {e1 e2 : Expr} {P1 P2 : D → Prop} (i j : Nat) (h1 : EvP X T a ρ e1 P1) (h2 : EvP X T a ρ e2 P2) (w : Wz T Hs a G H) (en : En X.K G σ ρ) (k : ∀ d1 d2, P1 d1 → P2 d2 → ∀ σ' G' H', Fw T a G H G' H' → Wz T Hs a G' H' → En X.K G' σ' ((ρ.set i (some d1)).set j (some d2)) → wB X rest N σ' H')
    (hN : X.N.Nodup := by assumption) (hi : X.N[i]? = some x := by rfl) (hj : X.N[j]? = some y := by rfl) (hij : i ≠ j := by decide) (hx : X.env.scope.names.lookup x = some .local := by rfl) (hy : X.env.scope.names.lookup y = some .local := by rfl)
    (hw : swappedStores [.Tuple [.Name x px, .Name y py] kt pt] (.Tuple [e1, e2] k2 pt2) X.env = pure (some [x, y]) := by rfl) (hs : swapsWithSole [.Tuple [.Name x px, .Name y py] kt pt] (.Tuple [e1, e2] k2 pt2) pos.line X.env = pure false := by rfl) (hc : X.calm = true := by rfl)
    (he : starEach [e1, e2] X.env = (false, eval e1 X.env) :: starEach [e2] X.env := by rfl) (he2 : starEach [e2] X.env = (false, eval e2 X.env) :: starEach [] X.env := by rfl) :
    wB X (.Assign [.Tuple [.Name x px, .Name y py] kt pt] (.Tuple [e1, e2] k2 pt2) pos :: rest) N σ H :=
  wB_cons (wS_of (ps_par hc hN hi hj hij hx hy (pa_cons pw (pa_cons pw pa_nil he2) he) hw hs) (p_two h1 h2 w en fun x y dx dy G1 H1 f1 r1 r2 q1 q2 => ⟨_, _, rfl, k dx dy q1 q2 _ G1 H1 f1 (w.fw f1) (((en.kp f1.g).set i r1).set j r2)⟩))
theorem z_if {P : Bool → Prop} (h : EvPT X T a ρ c P) (w : Wz T Hs a G H) (en : En X.K G σ ρ) (kt : P true → ∀ G' H', Fw T a G H G' H' → Wz T Hs a G' H' → En X.K G' σ ρ → wB X sa { N with nx := wB X rest N } σ H') (kf : P false → ∀ G' H', Fw T a G H G' H' → Wz T Hs a G' H' → En X.K G' σ ρ → wB X sb { N with nx := wB X rest N } σ H') :
    wB X (.If c sa sb pos :: rest) N σ H :=
  wB_cons (wS_of (ps_if ptw pbw pbw) (h Hs σ G H w en _ fun b G1 H1 f1 hb => by
    cases b with
    | true => exact kt hb G1 H1 f1 (w.fw f1) (en.kp f1.g)
    | false => exact kf hb G1 H1 f1 (w.fw f1) (en.kp f1.g)))
theorem z_when {P : Bool → Prop} (h : EvPT X T a ρ c P) (w : Wz T Hs a G H) (en : En X.K G σ ρ) (kt : P true → ∀ G' H', Fw T a G H G' H' → Wz T Hs a G' H' → En X.K G' σ ρ → wB X sa { N with nx := wB X rest N } σ H') (kf : P false → ∀ G' H', Fw T a G H G' H' → Wz T Hs a G' H' → En X.K G' σ ρ → wB X rest N σ H') :
    wB X (.If c sa [] pos :: rest) N σ H := z_if h w en kt fun hb G1 H1 f1 w1 en1 => wB_nil (kf hb G1 H1 f1 w1 en1)
/-- a check that is met -/
theorem z_pass (h : EvPT X T a ρ c (· = false)) (w : Wz T Hs a G H) (en : En X.K G σ ρ) (kf : ∀ G' H', Fw T a G H G' H' → Wz T Hs a G' H' → En X.K G' σ ρ → wB X rest N σ H') : wB X (.If c sa [] pos :: rest) N σ H := z_when h w en (fun z => nomatch z) fun _ => kf
theorem z_ret (h : EvP X T a ρ e P) (w : Wz T Hs a G H) (en : En X.K G σ ρ) (k : ∀ v d G' H', Fw T a G H G' H' → Rp X.K G' v d → P d → N.rt v H') : wB X (.Return (some e) pos :: rest) N σ H :=
  wB_cons (wS_of (ps_ret pw) (h Hs σ G H w en _ k))
/-- for x in iter, by a word over the turn and the slots -/
theorem z_for {α : Type} {iter : Expr} {body : List Stmt} {px : Pos} (j : Nat) (enc : α → D) (xs : List α) (J : Nat → Ro → Hp → Hp → Prop) (src : EvJ X ρ iter (xs.map enc)) (w : Wz T Hs a G H) (en : En X.K G σ ρ)
    (h0 : ∀ G1 H1, Fw T a G H G1 H1 → J 0 ρ G1 H1)
    (hs : ∀ i x ρ' σ' G' H' G3 H3, xs[i]? = some x → J i ρ' G' H' → Fw T a G' H' G3 H3 → Wz T Hs a G3 H3 → En X.K G3 σ' (ρ'.set j (some (enc x))) →
      wB X body { N with nx := fun σ2 H2 => ∃ ρ2 G2, Kp G' G2 ∧ Wz T Hs a G2 H2 ∧ En X.K G2 σ2 ρ2 ∧ J (i + 1) ρ2 G2 H2, ct := fun σ2 H2 => ∃ ρ2 G2, Kp G' G2 ∧ Wz T Hs a G2 H2 ∧ En X.K G2 σ2 ρ2 ∧ J (i + 1) ρ2 G2 H2, bk := wB X rest N } σ' H3)
    (hd : ∀ ρ' σ' G' H', J xs.length ρ' G' H' → Wz T Hs a G' H' → En X.K G' σ' ρ' → wB X rest N σ' H') (hN : X.N.Nodup := by assumption)
    (g1 : PG X (.Name x px) (gName j) := by first | exact pg_name (by assumption) rfl (Or.inl rfl) | exact pg_name (by assumption) rfl (Or.inr rfl)) (hp : PassesOwn (model X.prog X.w) X.A X.env X.xe := by exact PassesOwn.never) (hc : X.calm = true := by rfl) (hf : ∀ x, foldedSetIterable iter X.env x = pure x := by intro _; rfl) :
    wB X (.For (.Name x px) iter body [] pos :: rest) N σ H := by
  obtain ⟨wi, hpi, hw⟩ := src
  refine wB_cons (wS_of (ps_for hp hc (hpi _) g1 pbw hf) (hw σ G H w.s en _ fun It G1 H1 f1 hJ => ?_))
  refine ⟨fun i m σ' H' => m = xs.length - i ∧ i ≤ xs.length ∧ ∃ ρ' G', Kp G1 G' ∧ Wz T Hs a G' H' ∧ En X.K G' σ' ρ' ∧ J i ρ' G' H', ⟨xs.length, by simp, Nat.zero_le _, ρ, G1, Kp.refl, w.fw (w.ofFr f1), en.up f1.g, h0 G1 H1 (w.ofFr f1)⟩, ?_⟩
  rintro i m σ' H' ⟨rfl, hi, ρ', G', s1, w', en', q⟩
  obtain ⟨k1, k2⟩ := hJ i G' H' s1 w'.s
  by_cases hlt : i < xs.length
  · have hx : xs[i]? = some xs[i] := List.getElem?_eq_getElem hlt
    obtain ⟨go, yl⟩ := k2 (enc xs[i]) (by rw [List.getElem?_map, hx]; rfl)
    refine .inr ⟨go, fun σ2 H2 => ∃ ρ2 G2, Kp G' G2 ∧ Wz T Hs a G2 H2 ∧ En X.K G2 σ2 ρ2 ∧ J (i + 1) ρ2 G2 H2, fun σ2 H2 ⟨ρ2, G2, a1, a2, a3, a4⟩ => ⟨xs.length - (i + 1), by omega, rfl, hlt, ρ2, G2, s1.trans a1, a2, a3, a4⟩, fun x H3 y => ?_⟩
    obtain ⟨G3, f3, rx⟩ := yl x H3 y
    have fw3 := w'.ofFr f3
    exact hs i xs[i] ρ' _ G' H' G3 H3 hx q fw3 (w'.fw fw3) ((en'.up f3.g).set j rx)
  · have e : i = xs.length := by omega
    subst e
    exact .inl ⟨k1 (by rw [List.length_map]; exact Nat.le_refl _), hd ρ' σ' G' H' q w' en'⟩
end

end G9
namespace G9
open PySem PySem.Spec PyProof.Rows L2 G9S
open L2H HotX
def kinds8 : List Str := ["InvalidFamily", "InvalidRule", "InvalidWorths", "InvalidShare", "InvalidThings", "InvalidText", "TooMany", "NothingToUndo"]
/-- the eight classes, apart from each other -/
structure Ex8 (K : PySem.W.Frag) (mg : Str → Option Value) (c : Nat → Addr) : Prop where
  m0 : mg "InvalidFamily" = some (.ref (c 0))
  m1 : mg "InvalidRule" = some (.ref (c 1))
  m2 : mg "InvalidWorths" = some (.ref (c 2))
  m3 : mg "InvalidShare" = some (.ref (c 3))
  m4 : mg "InvalidThings" = some (.ref (c 4))
  m5 : mg "InvalidText" = some (.ref (c 5))
  m6 : mg "TooMany" = some (.ref (c 6))
  m7 : mg "NothingToUndo" = some (.ref (c 7))
  mv : mg "ValueError" = none
  exc : ∀ i, i < 8 → ExcC K (c i)
  kit : ∀ i j, i < 8 → j < 8 → PySem.W.kitOne K (.ref (c i)) (.ref (c j)) = some (decide (i = j))
  kitV : ∀ i, i < 8 → PySem.W.kitOne K (.ref (c i)) (.type "ValueError") = some true

end G9
namespace G9
open PySem PySem.Spec PyProof.Rows L2 G9S
/-! ### _law_met(lambda: ..): the exception of a call, held as a value -/
open L2H HotX
def keepE (c : Nat → Addr) (Q : VK) : XK := fun cls d H' => ∃ i, i < 8 ∧ cls = .ref (c i) ∧ d = none ∧ ∀ a, H' a = none → Q (.ref a) (upd H' a (ExR (.ref (c i)) a))
theorem sc_law_met : FnScope ["deed", "e"] ["deed"] (defScope s_law_met) := ⟨rfl, rfl, rfl, by decide +kernel, rfl, by decide +kernel, by decide +kernel⟩
structure MetT (K : PySem.W.Frag) (mg : Str → Option Value) (c : Nat → Addr) (g CS : Addr) (fdt : FuncData) : Prop where
  f : Fun K "_law_met" "_law_met" s_law_met g fdt
  b : Binds K fdt ["deed"] []
  m : mg "_law_met" = some (.ref g)
  e : mg "PickError" = some (.ref CS)
  ex : ∀ i, i < 8 → PySem.W.exmOne K (.ref (c i)) (.ref CS) = some true
section
variable {X : Cx}
theorem met_gives {c : Nat → Addr} {g CS : Addr} {fdt : FuncData} {cdg : Value} {q : Str} {k : Nat} (M : MetT X.K X.mg c g CS fdt) :
    GivesN X k ["deed", "e"] "_law_met" (defScope s_law_met) g cdg (defBody s_law_met) "deed" q (fun tl H Q => tl (keepE c Q) H fun _ H' => Q .non H') := by
  intro f c' s H Q tl hr act hc h
  refine ⟨_, pss_cons (ps_try_keep (X := (cxOf C8.CX0 X.prog X.w X.K X.mg X.base ["deed", "e"] "_law_met" (defScope s_law_met) g cdg X.A X.stack s H C8.E0).nox) (c := .ref CS) (i := 1)
      (tb := fun W D σ H => ∃ Ech : XK, (∀ cls d σ' H', Ech cls d H' → W cls d σ' H') ∧ σ[0]? = some (some (.ref f)) ∧ H c' = some (LamX.CodeO c' q) ∧ tl Ech H fun _ H' => D.nx σ H')
      rfl rfl rfl sc_law_met.nd rfl rfl ⟨rfl, by decide, .inl M.e⟩ (by decide) (by decide) (fun W pn xe tk _ => ?_)) (pss_one (ps_ret pe_non)), ?_⟩
  · refine ⟨fun pins s' σ H' D I h' => ?_⟩
    obtain ⟨Ech, hW, h1, h2, h3⟩ := h'
    exact (pss_one (ps_expr (act W pn xe Ech _ _ tk hW))).run pins s' σ H' D I ⟨h1, h2, h3⟩
  · refine ⟨keepE c Q, fun cls d σ' H' ⟨i, hi, e1, e2, hq⟩ => ⟨e2, by rw [e1]; exact M.ex i hi, fun a ha => ?_⟩, rfl, hc, h⟩
    rw [e1]
    exact hq a ha
theorem w_met {c : Nat → Addr} {g CS cc P0 : Addr} {fdt : FuncData} {T : List (Addr × Str)} {k : Nat} {params : Arguments} {body : Expr} {scope : Scope} {p lpos pos : Pos} {σ : L2.St} {H : Hp} {Q : VK} (M : MetT X.K X.mg c g CS fdt)
    (TB : LamX.TabB X.base X.mg cc P0) (hcode : X.env.code = .ref cc) (hmT : (P0, X.env.qual ++ "<lambda>") ∈ T) (hu : ∀ p ∈ T, p.1 = P0 → p.2 = X.env.qual ++ "<lambda>") (hr : Room (k + 2) X.A) (hT : LamX.Tabs T H)
    (h : ∀ H1, LamX.ExtN H H1 → LamX.Tabs T H1 → ∀ (A : Around) (outer : List Env) (s : Shared) (Hx : Hp) (f c' : Addr), Room k (A.deeper (LamX.lamEnv X scope s.heap.objs.size f c')) → wE (lamCxN X A outer s Hx (keepE c Q) scope f c') body σ H1 fun _ H' => Q .non H')
    (L : LamX.LamS X.env.scope scope := by exact LamX.lamS_by (by first | kernel_rfl | rfl)) (hdef : defaultsOf params X.env = ([], []) := by rfl)
    (hbind : ∀ (q : Str) (cl : List (Str × Addr)) (pm cv ctv : Value), bindArgs (PySem.W.kla_fn "<lambda>" q params body scope cl pm cv ctv) ⟨[], []⟩ = pure [] := by intro _ _ _ _ _; rfl) (hg : Gl X "_law_met" := by rfl) :
    wE X (.Call (.Name "_law_met" p) [.Lambda params body scope lpos] [] pos) σ H Q := by
  obtain ⟨oc, od, kV, doc, pm, an, cdv, ct, osl, rfl, lk, hcd⟩ := M.f.ex
  exact wE_of (pe_lamcallN (k := k) (t := fun E σ H Q => ∀ (A : Around) (outer : List Env) (s : Shared) (Hx : Hp) (f c' : Addr), Room k (A.deeper (LamX.lamEnv X scope s.heap.objs.size f c')) → wE (lamCxN X A outer s Hx E scope f c') body σ H Q)
    hg M.m M.f.kp lk hcd M.b sc_law_met rfl (.inl rfl) (met_gives M) TB hcode hmT hu hr L hdef hbind (fun A outer s H E f c' hr => ⟨fun pins s1 σ1 H1 Q1 I q => q A outer s H f c' hr pins s1 I⟩)) ⟨hT, h⟩
/-- e gives an exception of the i-th class -/
def EvM (X : Cx) (T : Tbs) (a : Addr) (c : Nat → Addr) (ρ : Ro) (e : Expr) (i : Nat) : Prop := ∀ (Hs : Hp) (σ : L2.St) (G H : Hp), Wz T Hs a G H → En X.K G σ ρ → ∀ Q : VK, (∀ x G' H', Fw T a G H G' H' → H' x = some (ExR (.ref (c i)) x) → Q (.ref x) H') → wE X e σ H Q
variable {T : Tbs} {a : Addr} {ρ : Ro}
/-- _law_met(lambda: body), where body refuses -/
theorem m_met {c : Nat → Addr} {g CS cc P0 : Addr} {fdt : FuncData} {k i : Nat} {params : Arguments} {body : Expr} {scope : Scope} {p lpos pos : Pos} (M : MetT X.K X.mg c g CS fdt)
    (TB : LamX.TabB X.base X.mg cc P0) (hcode : X.env.code = .ref cc) (hmT : (P0, X.env.qual ++ "<lambda>") ∈ T) (hu : ∀ p ∈ T, p.1 = P0 → p.2 = X.env.qual ++ "<lambda>") (hr : Room (k + 2) X.A) (hi : i < 8)
    (h : ∀ (E : XK) (A : Around) (outer : List Env) (s : Shared) (Hx : Hp) (f c' : Addr), Room k (A.deeper (LamX.lamEnv X scope s.heap.objs.size f c')) → EvX (lamCxN X A outer s Hx E scope f c') c E Nil ρ body (.exc i))
    (L : LamX.LamS X.env.scope scope := by exact LamX.lamS_by (by first | kernel_rfl | rfl)) (hdef : defaultsOf params X.env = ([], []) := by rfl)
    (hbind : ∀ (q : Str) (cl : List (Str × Addr)) (pm cv ctv : Value), bindArgs (PySem.W.kla_fn "<lambda>" q params body scope cl pm cv ctv) ⟨[], []⟩ = pure [] := by intro _ _ _ _ _; rfl) (hg : Gl X "_law_met" := by rfl) :
    EvM X T a c ρ (.Call (.Name "_law_met" p) [.Lambda params body scope lpos] [] pos) i := fun Hs σ G H wz en Q q => by
  refine w_met M TB hcode hmT hu hr wz.tb (fun H1 ext t1 A outer s Hx f c' hr' => ?_) L hdef hbind hg
  have fw := wz.lam ext t1
  have w1 := wz.fw fw
  refine h (keepE c Q) A outer s Hx f c' hr' σ (noT G) H1 same_nil w1.s (en.kp fw.g) _ (fun d hd => nomatch hd) fun j hj G' H' f' => ?_
  cases hj
  refine ⟨i, hi, rfl, rfl, fun x hx => ?_⟩
  have f2 := w1.ofFr f'
  have w2 := w1.fw f2
  exact q x G' _ (fw.trans (f2.trans (w2.ofFr (Fr.newH w2.s hx)))) upd_same
/-! ### the list of them -/
def Nw (Hs : Hp) (l : Addr) : Prop := ∀ o, (∀ ps, o ≠ .tbl ps) → Hs l = some o → False
theorem Wz.nw {Hs G H : Hp} (w : Wz T Hs a G H) {l : Addr} (hl : H l = none) : Nw Hs l := fun o ho e => by
  have ha : l ≠ a := fun z => by
    obtain ⟨o', h1, _⟩ := die_at w.da
    rw [← z, hl] at h1
    cases h1
  have := w.fr l o ha ho e
  rw [hl] at this
  cases this
theorem Wz.chg {Hs G H : Hp} (w : Wz T Hs a G H) {l : Addr} {vs us : List V} (hn : Nw Hs l) (hla : l ≠ a) (hg : G l = none) (hl : H l = some (.lst vs)) : Wz T Hs a G (upd H l (.lst us)) := by
  obtain ⟨x, y, hd⟩ := w.da
  refine ⟨Same.mut w.s hg, w.ga, ⟨x, y, by rw [upd_ne (Ne.symm hla)]; exact hd⟩, tabs_but w.tb hl rfl fun b u hb e => by rw [upd_ne hb]; exact e, fun b o hb ho e => ?_⟩
  by_cases z : b = l
  · subst z
    exact (hn o ho e).elim
  · rw [upd_ne z]
    exact w.fr b o hb ho e
/-- between two statements: the exceptions met so far -/
structure Met (T : Tbs) (Hs : Hp) (a : Addr) (c : Nat → Addr) (l : Addr) (G H : Hp) (xs : List Addr) : Prop where
  w : Wz T Hs a G H
  nw : Nw Hs l
  la : l ≠ a
  gl : G l = none
  hl : H l = some (.lst (xs.map V.ref))
  ex : ∀ (j : Nat) (x : Addr), xs[j]? = some x → H x = some (ExR (.ref (c j)) x)
variable {c : Nat → Addr} {σ : L2.St} {rest : List Stmt} {N : Ends} {e : Expr} {pos p pl : Pos} {x : Str}
/-- made = [e] -/
theorem z_met1 {Hs G H : Hp} (i : Nat) (h : EvM X T a c ρ e 0) (w : Wz T Hs a G H) (en : En X.K G σ ρ) (k : ∀ l y σ' G' H', Met T Hs a c l G' H' [y] → En X.K G' σ' (ρ.set i (some (.ref l))) → wB X rest N σ' H') (hN : X.N.Nodup := by assumption) (hi : X.N[i]? = some x := by rfl)
    (he : starEach [e] X.env = (false, eval e X.env) :: starEach [] X.env := by rfl) (hx : Loc X.env.scope x := by first | exact Or.inl rfl | exact Or.inr rfl) (hs : swapsWith (.List [e] pl) (some (.Name x p)) pos.line X.env = pure false := by rfl) (hf : X.fn x = true ∨ X.env.scope.names.lookup x = some .local := by first | exact .inl rfl | exact .inr rfl | assumption) :
    wB X (.Assign [.Name x p] (.List [e] pl) pos :: rest) N σ H :=
  wB_cons (wS_of (ps_set hN hi hx (pe_lst (pa_cons pw pa_nil he)) hs hf) (h Hs σ G H w en _ fun y G1 H1 f1 hy => ⟨by show 1 ≤ sizeLine; decide, fun l hl => by
    have w1 := w.fw f1
    have f2 := w1.ofFr (Fr.newH (o := .lst [.ref y]) w1.s hl)
    have la : l ≠ a := fun z => by
      obtain ⟨o', h1, _⟩ := die_at w1.da
      rw [← z, hl] at h1
      cases h1
    refine k l y _ G1 _ ⟨w1.fw f2, w1.nw hl, la, w1.s.free hl, upd_same, fun j x' e => ?_⟩ ((en.kp f1.g).set i (.ref l))
    cases j with
    | zero =>
      cases e
      rw [upd_ne (ne_of_none hy hl)]
      exact hy
    | succ j => simp at e⟩))
/-- made.append(e) -/
theorem z_met2 {Hs G H : Hp} {l : Addr} {xs : List Addr} {pa p1 : Pos} {o : Expr} (ho : Ev X Nil ρ o (.ref l)) (h : EvM X T a c ρ e xs.length) (m : Met T Hs a c l G H xs) (hz : xs.length < 100) (en : En X.K G σ ρ) (k : ∀ y G' H', Met T Hs a c l G' H' (xs ++ [y]) → En X.K G' σ ρ → wB X rest N σ H')
    (pe : PE X (.Call (.Attribute o "append" pa) [e] [] p1) (tBM X.K "list" rAppend (wE X o) (wA X [e])) := by exact pe_bm PySem.F.plainAttrs_list PySem.F.slot_list_append PySem.F.type_list_append mt_append pw paw)
    (hs2 : starEach [e] X.env = (false, eval e X.env) :: starEach [] X.env := by rfl) (hs : swapsWith (.Call (.Attribute o "append" pa) [e] [] p1) none pos.line X.env = pure false := by rfl) :
    wB X (.Expr (.Call (.Attribute o "append" pa) [e] [] p1) pos :: rest) N σ H := by
  refine wB_cons (wS_of (ps_expr pe hs) (ho σ G H same_nil m.w.s en _ fun v G1 H1 f1 r1 => ?_))
  obtain rfl := r1.ref_of
  have fw1 := m.w.ofFr f1
  have w1 := m.w.fw fw1
  have hl1 := f1.h l _ m.hl
  refine ⟨.inl ⟨rfl, _, SqL.of hl1⟩, wA_of (pa_cons pw pa_nil hs2) (h Hs σ G1 H1 w1 (en.up f1.g) _ fun y G2 H2 f2 hy => ?_)⟩
  have w2 := w1.fw f2
  have hl2 : H2 l = some (.lst (xs.map V.ref)) := f2.h l _ m.la (fun _ z => nomatch z) hl1
  have gl2 : G2 l = none := f2.n l _ (f1.n l m.gl (by rw [m.hl]; exact fun z => nomatch z)) hl1 fun _ z => nomatch z
  refine ⟨l, _, _, rfl, rfl, hl2, by rw [List.length_map]; exact Nat.lt_trans hz (by decide), k y G2 _ ⟨w2.chg m.nw m.la gl2 hl2, m.nw, m.la, gl2, by rw [upd_same, List.map_append]; rfl, fun j x' e => ?_⟩ ((en.up f1.g).kp f2.g)⟩
  have far : ∀ z, (∃ cl, H2 z = some (ExR cl z)) → z ≠ l := fun z hz q => by
    obtain ⟨cl, hz⟩ := hz
    rw [q, hl2] at hz
    cases hz
  by_cases hj : j < xs.length
  · rw [List.getElem?_append_left hj] at e
    have h1 := m.ex j x' e
    have xa : x' ≠ a := fun z => by
      obtain ⟨u, v, q⟩ := m.w.da
      rw [← z, h1] at q
      cases q
    have h2 := f2.h x' _ xa (fun _ z => by unfold ExR at z; cases z) (f1.h x' _ h1)
    rw [upd_ne (far x' ⟨_, h2⟩)]
    exact h2
  · rw [List.getElem?_append_right (by omega)] at e
    have : j = xs.length := by
      rcases Nat.lt_or_ge (j - xs.length) 1 with q | q
      · omega
      · rw [List.getElem?_eq_none (by simpa using q)] at e
        cases e
    subst this
    rw [Nat.sub_self] at e
    have e : y = x' := Option.some.inj e
    subst e
    rw [upd_ne (far y ⟨_, hy⟩)]
    exact hy
/-- a test that leans on what the heap holds -/
theorem z_passH {Hs G H H0 : Hp} {c' : Expr} {sa : List Stmt} (h : EvT X H0 ρ c' false) (s0 : Same H0 H) (w : Wz T Hs a G H) (en : En X.K G σ ρ) (kf : ∀ G' H', Fw T a G H G' H' → Wz T Hs a G' H' → En X.K G' σ ρ → wB X rest N σ H') : wB X (.If c' sa [] pos :: rest) N σ H := by
  obtain ⟨G2, hG2⟩ : ∃ G2 : Hp, G2 = fun b => match G b with | some o => some o | none => H0 b := ⟨_, rfl⟩
  have sg : Same G G2 := fun b o e => by
    rw [hG2]
    show (match G b with | some o => some o | none => H0 b) = _
    rw [e]
  have sh : Same G2 H := fun b o e => by
    rw [hG2] at e
    have e : (match G b with | some o => some o | none => H0 b) = some o := e
    cases q : G b with
    | some o' =>
      rw [q] at e
      cases e
      exact w.s b _ q
    | none =>
      rw [q] at e
      exact s0 b o e
  have s02 : Same H0 G2 := fun b o e => by
    rw [hG2]
    show (match G b with | some o => some o | none => H0 b) = _
    cases q : G b with
    | some o' =>
      have h1 := w.s b _ q
      rw [s0 b o e] at h1
      exact h1.symm
    | none => exact e
  refine wB_cons (wS_of (ps_if ptw pbw pbw) (h σ G2 H s02 sh (en.up sg) _ fun G1 H1 f1 => ?_))
  have fw := w.ofFr (Fr.keep w.s f1.h)
  exact wB_nil (kf G H1 fw (w.fw fw) en)
end

end G9
namespace G9
open PySem PySem.Spec PyProof.Rows L2 G9S
open L2H HotX
section
variable {P : Program} {w : World} {K : PySem.W.Frag} {mg : Str → Option Value} {base : Heap}
/-! _law_alone -/
def spAlone (K : PySem.W.Frag) (c : Nat → Addr) : Sp := fun vs H Q _ => ∃ (x : Addr) (i j : Nat) (G : Hp), vs = [.ref x, .int (j : Int)] ∧ i < 8 ∧ Same G H ∧ G x = some (ExR (.ref (c i)) x) ∧ ∀ G' H', Fr G H G' H' → Q (.bl (decide (i = j))) H'
theorem sc_law_alone : FnScope ["e", "own", "some", "at"] ["e", "own"] (defScope s_law_alone) := ⟨rfl, rfl, rfl, by decide +kernel, rfl, by decide +kernel, by decide +kernel⟩
theorem rc_isX {C a : Addr} {H0 : Hp} {D' : Addr} {b : Bool} (h0 : H0 a = some (ExR (.ref C) a)) (hk : PySem.W.kitOne K (.ref C) (.ref D') = some b) : RdC K H0 (rIsX K C) [.ref a, .ref D'] (.bl b) := fun xs G H sg s r Q q => by
  cases r with
  | cons r1 r =>
    cases r with
    | cons r2 r =>
      cases r
      rw [r1.ref_of, r2.ref_of]
      exact ⟨a, .ref D', .ref D', b, rfl, s _ _ (sg _ _ h0), fun u hu => by cases hu; rfl, hk, q _ _ _ (Fr.refl s) (.bl b)⟩
theorem rc_isXt {C a : Addr} {H0 : Hp} {D' : String} {b : Bool} (h0 : H0 a = some (ExR (.ref C) a)) (hk : PySem.W.kitOne K (.ref C) (.type D') = some b) : RdC K H0 (rIsX K C) [.ref a, .ty D'] (.bl b) := fun xs G H sg s r Q q => by
  cases r with
  | cons r1 r =>
    cases r with
    | cons r2 r =>
      cases r
      rw [r1.ref_of]
      cases r2
      exact ⟨a, .ty D', .type D', b, rfl, s _ _ (sg _ _ h0), fun u hu => hu, hk, q _ _ _ (Fr.refl s) (.bl b)⟩
theorem eqv_bls (as bs : List Bool) : (D.lst (as.map D.bl)).eqv (.lst (bs.map D.bl)) = decide (as = bs) := by
  have key : ∀ as bs : List Bool, PyData.eqvAll (D.pyL (as.map D.bl)) (D.pyL (bs.map D.bl)) = decide (as = bs) := by
    intro as
    induction as with
    | nil =>
      intro bs
      cases bs <;> rfl
    | cons a as ih =>
      intro bs
      cases bs with
      | nil => rfl
      | cons b bs =>
        rw [List.map_cons, List.map_cons, D.pyL, D.pyL, PyData.eqvAll, ih]
        have : PyData.eqv (D.bl a).py (D.bl b).py = decide (a = b) := by
          cases a <;> cases b <;> rfl
        rw [this]
        cases a <;> cases b <;> simp
  exact key as bs
theorem sh_bls (bs : List Bool) : Sh 1 (D.lst (bs.map D.bl)) := .lst fun d hd => by
  obtain ⟨b, _, rfl⟩ := List.mem_map.mp hd
  exact .bl _
theorem ok_law_alone {f : Addr} {fd : FuncData} {c : Nat → Addr} (F : Fun K "_law_alone" "_law_alone" s_law_alone f fd) (B : Blt mg) (X8 : Ex8 K mg c) : FnOk P w K mg base CX0 1 f fd ["e", "own"] (spAlone K c) := by
  refine okS F sc_law_alone (fun vs H Q E h => by obtain ⟨x, i, j, G, rfl, _⟩ := h; rfl) fun cdv A outer s H E vs Q hr h => ?_
  obtain ⟨x, i, j, G, rfl, hi, sh, hx, q⟩ := h
  have hN := sc_law_alone.nd
  have isE : ∀ {ρ : Ro} {y : Str} {k : Nat} {pe px p1 p2 : Pos}, ρ[0]? = some (some (.ref x)) → mg y = some (.ref (c k)) → k < 8 → Gl ((cxOf CX0 P w K mg base ["e", "own", "some", "at"] "_law_alone" (defScope s_law_alone) f cdv A outer s H E).nox) y → (y == ("__debug__" : Str)) = false →
      Ev ((cxOf CX0 P w K mg base ["e", "own", "some", "at"] "_law_alone" (defScope s_law_alone) f cdv A outer s H E).nox) G ρ (.Call (.Name "isinstance" p1) [.Name "e" pe, .Name y px] [] p2) (.bl (decide (i = k))) := fun {ρ y k pe px p1 p2} h0 hm hk hg hd =>
    e_callB (call_isX (X8.exc i hi)) B.isinstance_ (a_cons (e_v 0 h0) (a_cons (e_glob hm (v := .ref (c k)) rfl (fun _ => .ref (c k)) hg hd) a_nil)) (rc_isX hx (X8.kit i k hi hk))
  have en0 : En K G (L2.start ["e", "own", "some", "at"] [.ref x, .int (j : Int)]) [some (.ref x), some (.int (j : Int)), none, none] := en_start (N := ["e", "own", "some", "at"]) (ds := [.ref x, .int (j : Int)]) (.cons (.ref x) (.cons (.int _) .nil))
  refine s_asg 2 (l_lst (a_cons (isE rfl X8.m0 (by decide) rfl (by decide)) (a_cons (isE rfl X8.m1 (by decide) rfl (by decide)) (a_cons (isE rfl X8.m2 (by decide) rfl (by decide)) a_nil))) (by show 3 ≤ 100000; decide)).ev (Same.refl _) sh en0 fun σ1 G1 H1 f1 en1 => ?_
  refine s_asg 2 (l_op op_cat (e_v 2) (l_lst (a_cons (isE rfl X8.m3 (by decide) rfl (by decide)) (a_cons (isE rfl X8.m4 (by decide) rfl (by decide)) (a_cons (isE rfl X8.m5 (by decide) rfl (by decide)) a_nil))) (by show 3 ≤ 100000; decide)).ev (rd_cat (by show 6 ≤ 100000; decide))).ev f1.g f1.s en1 fun σ2 G2 H2 f2 en2 => ?_
  refine s_asg 2 (l_op op_cat (e_v 2) (l_lst (a_cons (isE rfl X8.m6 (by decide) rfl (by decide)) (a_cons (isE rfl X8.m7 (by decide) rfl (by decide)) a_nil)) (by show 2 ≤ 100000; decide)).ev (rd_cat (by show 8 ≤ 100000; decide))).ev (f1.g.trans f2.g) f2.s en2 fun σ3 G3 H3 f3 en3 => ?_
  have en3 : En K G3 σ3 [some (.ref x), some (.int (j : Int)), some (.lst (((List.range 8).map fun k => decide (i = k)).map D.bl)), none] := en3
  have hal : decide (((List.range 8).map fun k => decide (i = k)) = (List.range 8).map fun k => decide (k = j)) = decide (i = j) := by
    refine decide_eq_decide.mpr ⟨fun z => ?_, fun z => ?_⟩
    · have h1 := congrArg (fun l => l[i]?) z
      simp only [List.getElem?_map, List.getElem?_range hi, Option.map_some, Option.some.injEq] at h1
      simpa using h1
    · subst z
      exact List.map_congr_left fun k _ => decide_eq_decide.mpr ⟨Eq.symm, Eq.symm⟩
  have hM : ((List.range 8).map fun k => D.bl (decide (k = j))) = ((List.range 8).map fun k => decide (k = j)).map D.bl := by rw [List.map_map]; rfl
  have hcmp : Ev ((cxOf CX0 P w K mg base ["e", "own", "some", "at"] "_law_alone" (defScope s_law_alone) f cdv A outer s H E).nox) G [some (.ref x), some (.int (j : Int)), some (.lst (((List.range 8).map fun k => decide (i = k)).map D.bl)), none] (match (defBody s_law_alone).getD 3 (.Pass ⟨0, 0, 0, 0⟩) with | .Return (some (.BoolOp _ [_, e] _)) _ => e | _ => .Name "x" ⟨0, 0, 0, 0⟩) (.bl (decide (i = j))) := by
    refine Ev.is (e_eqD hr.units (e_v 2) (Ev.is (l_lc 3 (c_map (fun k : Nat => D.int (k : Int)) (List.range 8) (fun k => D.bl (decide (k = j))) 3 (i_range1 B.range_ e_int (by decide)) (by decide) ?_)).ev (congrArg D.lst hM)) (sh_bls _) (sh_bls _)) ?_
    · intro k hk _ _ _ _ _
      exact Ev.is (e_cmp op_eq (e_v 3) (e_v 1) rd_eqI) (congrArg D.bl (decide_eq_decide.mpr ⟨fun z => by omega, fun z => by omega⟩))
    · rw [eqv_bls, hal]
  exact s_ret (Ev.is (e_and (e_callB (call_isX (X8.exc i hi)) B.isinstance_ (a_cons (e_v 0) (a_cons (e_ty X8.mv) a_nil)) (rc_isXt hx (X8.kitV i hi))) fun _ => e_one hcmp) rfl) (f1.g.trans (f2.g.trans f3.g)) f3.s en3 fun v G4 H4 f4 r4 => by
    cases r4
    exact q G4 H4 (((f1.trans f2).trans f3).trans f4)
end

end G9
namespace G9
open PySem PySem.Spec PyProof.Rows L2 G9S
open L2H HotX
inductive Rule where
  | best
  | out
  | swap
  | size (sz : List Int)
deriving DecidableEq
def dRule : Rule → D
  | .best => .str "best"
  | .out => .str "out"
  | .swap => .str "swap"
  | .size sz => .tup [.str "size", dS sz]
structure RuleOk (n : Int) (r : Rule) : Prop where
  sz : ∀ s, r = .size s → (s.length : Int) = n ∧ ∀ x ∈ s, 1 ≤ x ∧ x ≤ 9
def plainS (x : Str) : Bool := ([("best" : Str), "out", "swap"] : List Str).contains x
def isRuleD (d : D) (n : Int) : Bool := match d with
  | .str x => plainS x
  | .tup [.str x, .tup ds] => decide (x = ("size" : Str)) && (decide ((ds.length : Int) = n) && ds.all fun y => wholeD y 1 9)
  | _ => false
theorem RuleOk.is {n : Int} {r : Rule} (h : RuleOk n r) : isRuleD (dRule r) n = true := by
  cases r with
  | best =>
    show plainS "best" = true
    decide +kernel
  | out =>
    show plainS "out" = true
    decide +kernel
  | swap =>
    show plainS "swap" = true
    decide +kernel
  | size sz =>
    obtain ⟨h1, h2⟩ := h.sz sz rfl
    show (decide (("size" : Str) = ("size" : Str)) && (decide (((sz.map D.int).length : Int) = n) && (sz.map D.int).all fun y => wholeD y 1 9)) = true
    rw [decide_eq_true rfl, List.length_map, decide_eq_true h1, Bool.true_and, Bool.true_and, List.all_eq_true]
    intro d hd
    obtain ⟨x, hx, rfl⟩ := List.mem_map.mp hd
    obtain ⟨h3, h4⟩ := h2 x hx
    simp [wholeD, h3, h4]
theorem dRule_sm {n : Int} {r : Rule} (h : RuleOk n r) (hn : n ≤ 5) : Sm 2 (dRule r) := by
  cases r with
  | best => exact .str _ (by decide +kernel)
  | out => exact .str _ (by decide +kernel)
  | swap => exact .str _ (by decide +kernel)
  | size sz =>
    obtain ⟨h1, h2⟩ := h.sz sz rfl
    refine .tup (by show 2 < 64; decide) fun d hd => ?_
    rcases List.mem_cons.mp hd with rfl | hd
    · exact .str _ (by decide +kernel)
    · rw [List.mem_singleton.mp hd]
      refine .tup (by rw [List.length_map]; omega) fun d hd => ?_
      obtain ⟨x, hx, rfl⟩ := List.mem_map.mp hd
      exact .int x
theorem dRule_sh (r : Rule) : Sh 2 (dRule r) := by
  cases r with
  | best => exact .str _ (by decide +kernel)
  | out => exact .str _ (by decide +kernel)
  | swap => exact .str _ (by decide +kernel)
  | size sz =>
    refine .tup fun d hd => ?_
    rcases List.mem_cons.mp hd with rfl | hd
    · exact .str _ (by decide +kernel)
    · rw [List.mem_singleton.mp hd]
      exact sh_dS _
section
variable {P : Program} {w : World} {K : PySem.W.Frag} {mg : Str → Option Value} {base : Heap} {H0 : Hp}
theorem rpl_strs {H : Hp} : ∀ ss : List Str, RpL K H (ss.map V.str) (ss.map D.str)
  | [] => .nil
  | x :: xs => .cons (.str x) (rpl_strs xs)
theorem inV_str {x : Str} : ∀ ss : List Str, inV (.str x) (ss.map V.str) = ss.contains x
  | [] => rfl
  | n :: ns => by
    have ih := inV_str (x := x) ns
    unfold inV at ih ⊢
    rw [List.map_cons, List.any_cons, ih, List.contains_cons]
    show ((n == x) || _) = ((x == n) || _)
    rw [Bool.beq_comm]
theorem flat_strs : ∀ ss : List Str, (ss.map V.str).all flatV = true
  | [] => rfl
  | n :: ns => by
    rw [List.map_cons, List.all_cons, flat_strs ns]
    rfl
theorem rd_inSR {x : Str} {ss : List Str} : Rd2 K H0 (rIn K false) (.str x) (.tup (ss.map D.str)) (.bl (ss.contains x)) := fun v u G H _ s rx ry Q q => by
  cases rx.str_of
  obtain ⟨a, xs, rfl, hs, r⟩ := ry.tup_of
  obtain rfl := r.strs_of
  refine ⟨a, _, rfl, .inr (Same.sqT s hs), rfl, flat_strs ss, ?_⟩
  rw [if_neg (by decide), inV_str]
  exact q _ _ _ (Fr.refl s) (.bl _)
abbrev plains : List Str := ["best", "out", "swap"]
/-- PLAIN -/
structure PlainK (K : PySem.W.Frag) (mg : Str → Option Value) : Prop where
  ex : ∃ (a : Addr) (o : Obj) (its : Array Value) (n : Nat), mg "PLAIN" = some (.ref a) ∧ K.lookup a = some o ∧ o.cls = .type "tuple" ∧ o.data = .seq its n ∧ its.size ≤ sizeLine ∧ Vals (plains.map V.str) its.toList
theorem e_plain {X : Cx} {ρ : Ro} {pos : Pos} (Pk : PlainK X.K X.mg) (hg : Gl X "PLAIN" := by rfl) : Ev X H0 ρ (.Name "PLAIN" pos) (.tup (plains.map D.str)) := by
  obtain ⟨a, o, its, n, hm, h1, h2, h3, h4, h5⟩ := Pk.ex
  exact e_glob (v := .ref a) hm rfl (fun H => .tup (.inr ⟨o, its, n, h1, h2, h3, h4, h5⟩) (rpl_strs plains)) hg (by decide)
/-! ### is_rule_for -/
def R_is_rule_for (ds : List D) (d : D) : Prop := ∃ (v : D) (n : Int) (m : Nat), m ≤ 60 ∧ Sm m v ∧ ds = [v, .int n] ∧ d = .bl (isRuleD v n)
theorem sc_is_rule_for : FnScope ["value", "things", "one"] ["value", "things"] (defScope s_is_rule_for) := ⟨rfl, rfl, rfl, by decide +kernel, rfl, by decide +kernel, by decide +kernel⟩
theorem not_tup {d : D} {m : Nat} (h : Sm m d) (hn : ¬ ∃ ds, d = .tup ds) : ∃ t, d.tyS = some t ∧ kitB t "tuple" = some false := by
  cases h with
  | non => exact ⟨_, rfl, by decide +kernel⟩
  | bl _ => exact ⟨_, rfl, by decide +kernel⟩
  | int _ => exact ⟨_, rfl, by decide +kernel⟩
  | str _ _ => exact ⟨_, rfl, by decide +kernel⟩
  | lst _ _ => exact ⟨_, rfl, by decide +kernel⟩
  | tup _ _ => exact absurd ⟨_, rfl⟩ hn
theorem not_str {d : D} {m : Nat} (h : Sm m d) (hn : ¬ ∃ x, d = .str x) : ∃ t, d.tyS = some t ∧ kitB t "str" = some false := by
  cases h with
  | non => exact ⟨_, rfl, by decide +kernel⟩
  | bl _ => exact ⟨_, rfl, by decide +kernel⟩
  | int _ => exact ⟨_, rfl, by decide +kernel⟩
  | str _ _ => exact absurd ⟨_, rfl⟩ hn
  | lst _ _ => exact ⟨_, rfl, by decide +kernel⟩
  | tup _ _ => exact ⟨_, rfl, by decide +kernel⟩
theorem rd_neS {x y : Str} : Rd2 K H0 rNe (.str x) (.str y) (.bl (!decide (x = y))) := fun v u G H _ s rx ry Q q => by
  cases rx.str_of
  cases ry.str_of
  refine ⟨rfl, ?_⟩
  have e : decide (V.str x = V.str y) = decide (x = y) := decide_eq_decide.mpr ⟨fun z => by cases z; rfl, fun z => by rw [z]⟩
  rw [e]
  exact q _ _ _ (Fr.refl s) (.bl _)
theorem ok_is_rule_for {f : Addr} {fd : FuncData} (F : Fun K "is_rule_for" "is_rule_for" s_is_rule_for f fd) (B : Blt mg) (Pk : PlainK K mg) (F1 : Fn P w K mg base "is_whole" 1 (spR K R_is_whole)) : FnOk P w K mg base CX0 2 f fd ["value", "things"] (spR K R_is_rule_for) := by
  refine okD F sc_is_rule_for (fun ds d h => by obtain ⟨_, _, _, _, _, rfl, _⟩ := h; rfl) fun cdv A outer s H G E σ ds d Q hr hR sh en q => ?_
  obtain ⟨v, n, m, hm, hv, rfl, rfl⟩ := hR
  have hN := sc_is_rule_for.nd
  by_cases hs : ∃ x, v = .str x
  · obtain ⟨x, rfl⟩ := hs
    refine s_when (b := true) (t_val (e_isi "str" (t := "str") (k := true) B (e_v 0) rfl (by decide +kernel) B.str_)) same_nil sh en (fun _ G1 H1 f1 en1 => ?_) fun z => nomatch z
    exact s_ret (e_cmp op_in_seq (e_v 0) (e_plain Pk) rd_inSR) same_nil f1.s en1 fun v G2 H2 f2 r2 => q v G2 H2 (f1.trans f2) r2
  · obtain ⟨t, ht, hk⟩ := not_str hv hs
    refine s_when (b := false) (t_val (e_isi "str" (t := t) (k := false) B (e_v 0) ht hk B.str_)) same_nil sh en (fun z => nomatch z) fun _ G1 H1 f1 en1 => ?_
    have no : ∀ {X : Cx} {ρ : Ro} {σ1 : L2.St} {G1 H1 : Hp} {N : Ends} {rest : List Stmt} {j} {pos pos2 : Pos}, isRuleD v n = false → X.K = K → Fr G H G1 H1 → En X.K G1 σ1 ρ → N.rt = Q → wB X (.Return (some (.Constant (.bool false) j pos)) pos2 :: rest) N σ1 H1 := fun {X ρ σ1 G1 H1 N rest j pos pos2} e1 e2 f1 en1 e3 => by
      refine s_ret e_bl same_nil f1.s en1 fun v G2 H2 f2 r2 => ?_
      rw [e3]
      refine q v G2 H2 (f1.trans f2) ?_
      rw [e1, ← e2]
      exact r2
    by_cases hnt : ∃ ds, v = .tup ds
    · obtain ⟨ds, rfl⟩ := hnt
      obtain ⟨m, rfl, hl, hm2⟩ := hv.tup_inv
      have isT : ∀ {X : Cx} {H0 : Hp} {ρ : Ro} {e : Expr} {d : D} {ds : List D} {p p2 pos : Pos}, True := trivial
      by_cases h2 : ds.length = 2
      · obtain ⟨a, b, rfl⟩ : ∃ a b, ds = [a, b] := by
          match ds, h2 with
          | [a, b], _ => exact ⟨a, b, rfl⟩
        have ha := hm2 a (by simp)
        have hb := hm2 b (by simp)
        by_cases has : ∃ x, a = .str x
        · obtain ⟨x, rfl⟩ := has
          refine s_when (b := !decide (x = ("size" : Str))) ((w_or (t_not (t_val (e_isi "tuple" (t := "tuple") (k := true) B (e_v 0) rfl (by decide +kernel) B.tuple_))) fun _ => w_or (t_cmp op_ne (e_lenT B (e_v 0)) e_int rd_neI) fun _ => w_or (t_not (t_val (e_isi "str" (t := "str") (k := true) B (e_at (e_v 0) rfl) rfl (by decide +kernel) B.str_))) fun _ => w_or1 (t_cmp op_ne (e_at (e_v 0) rfl) e_str rd_neS)).t.is (by simp)) same_nil f1.s en1 (fun hz G2 H2 f2 en2 => no ?_ rfl (f1.trans f2) en2 rfl) fun hz G2 H2 f2 en2 => ?_
          · have hz : ¬ x = "size" := by simpa using hz
            cases b with
            | tup es => rw [isRuleD, decide_eq_false hz]; rfl
            | _ => rfl
          · have hz : x = "size" := by simpa using hz
            by_cases hbt : ∃ es, b = .tup es
            · obtain ⟨es, rfl⟩ := hbt
              obtain ⟨m, rfl, hl3, hm3⟩ := hb.tup_inv
              have eR : isRuleD (.tup [.str x, .tup es]) n = (decide ((es.length : Int) = n) && es.all fun y => wholeD y 1 9) := by rw [isRuleD, decide_eq_true hz, Bool.true_and]
              refine s_when (b := !decide ((es.length : Int) = n)) ((t_or2 (t_not (t_val (e_isi "tuple" (t := "tuple") (k := true) B (e_at (e_v 0) rfl) rfl (by decide +kernel) B.tuple_))) fun _ => t_cmp op_ne (e_lenT B (e_at (e_v 0) rfl)) (e_v 1) rd_neI).is (by simp)) same_nil f2.s en2 (fun hz2 G3 H3 f3 en3 => no ?_ rfl ((f1.trans f2).trans f3) en3 rfl) fun hz2 G3 H3 f3 en3 => ?_
              · have hz2 : ¬ (es.length : Int) = n := by simpa using hz2
                rw [eR, decide_eq_false hz2]
                rfl
              · have hz2 : (es.length : Int) = n := by simpa using hz2
                rw [eR, decide_eq_true hz2, Bool.true_and] at q
                exact s_ret (e_all B (l_lc 2 (c_map id es (fun y => D.bl (wholeD y 1 9)) 2 ((i_tup (e_at (e_v 0) rfl)).is (by simp)) (by omega) fun y hy _ _ _ _ _ => e_call F1 hr (a_cons (e_v 2) (a_cons e_int (a_cons e_int a_nil))) ⟨y, 1, 9, (hm3 y hy).ty, rfl, rfl⟩))) same_nil f3.s en3 fun v G4 H4 f4 r4 => q v G4 H4 (((f1.trans f2).trans f3).trans f4) r4
            · obtain ⟨t2, ht2, hk2⟩ := not_tup hb hbt
              refine s_when (b := true) ((t_or2 (l := false) (t_not (t_val (e_isi "tuple" (t := t2) (k := false) B (e_at (e_v 0) rfl) ht2 hk2 B.tuple_))) fun h => nomatch h).is (by simp)) same_nil f2.s en2 (fun hz2 G3 H3 f3 en3 => no ?_ rfl ((f1.trans f2).trans f3) en3 rfl) fun z => nomatch z
              cases b with
              | tup es => exact absurd ⟨es, rfl⟩ hbt
              | _ => rfl
        · obtain ⟨t2, ht2, hk2⟩ := not_str ha has
          refine s_when (b := true) ((w_or (t_not (t_val (e_isi "tuple" (t := "tuple") (k := true) B (e_v 0) rfl (by decide +kernel) B.tuple_))) fun _ => w_or (t_cmp op_ne (e_lenT B (e_v 0)) e_int rd_neI) fun _ => w_or (l := false) (t_not (t_val (e_isi "str" (t := t2) (k := false) B (e_at (e_v 0) rfl) ht2 hk2 B.str_))) fun h => nomatch h).t.is (by simp)) same_nil f1.s en1 (fun hz G2 H2 f2 en2 => no ?_ rfl (f1.trans f2) en2 rfl) fun z => nomatch z
          cases a with
          | str x => exact absurd ⟨x, rfl⟩ has
          | _ => rfl
      · refine s_when (b := true) ((w_or (t_not (t_val (e_isi "tuple" (t := "tuple") (k := true) B (e_v 0) rfl (by decide +kernel) B.tuple_))) fun _ => w_or (l := false) (t_cmp op_ne (e_lenT B (e_v 0)) e_int rd_neI) fun h => ?_).t.is ?_) same_nil f1.s en1 (fun hz G2 H2 f2 en2 => no ?_ rfl (f1.trans f2) en2 rfl) fun z => nomatch z
        · exact absurd h (by simp; omega)
        · simp
          omega
        · unfold isRuleD
          split
          · cases ‹_ = _›
          · rename_i e
            cases e
            exact absurd rfl h2
          · rfl
    · obtain ⟨t2, ht2, hk2⟩ := not_tup hv hnt
      refine s_when (b := true) ((w_or (l := false) (t_not (t_val (e_isi "tuple" (t := t2) (k := false) B (e_v 0) ht2 hk2 B.tuple_))) fun h => nomatch h).t.is (by simp)) same_nil f1.s en1 (fun hz G2 H2 f2 en2 => no ?_ rfl (f1.trans f2) en2 rfl) fun z => nomatch z
      cases v with
      | tup es => exact absurd ⟨es, rfl⟩ hnt
      | str x => exact absurd ⟨x, rfl⟩ hs
      | _ => rfl
end

end G9
namespace G9
open PySem PySem.Spec PyProof.Rows L2 G9S
open L2H HotX
section
variable {P : Program} {w : World} {K : PySem.W.Frag} {mg : Str → Option Value} {base : Heap} {H0 : Hp} {c : Nat → Addr}
/-! ### need_rule -/
def R_need_rule (ds : List D) (o : Out) : Prop := ∃ (v : D) (n : Int) (x : D) (m : Nat), m ≤ 60 ∧ Sm m v ∧ ds = [v, .tup [.int n, x]] ∧ o = (if isRuleD v n then .val .non else .exc 1)
theorem sc_need_rule : FnScope ["rule", "family"] ["rule", "family"] (defScope s_need_rule) := ⟨rfl, rfl, rfl, by decide +kernel, rfl, by decide +kernel, by decide +kernel⟩
theorem ok_need_rule {f : Addr} {fd : FuncData} (F : Fun K "need_rule" "need_rule" s_need_rule f fd) (F1 : Fn P w K mg base "is_rule_for" 2 (spR K R_is_rule_for)) (T : ExcT K mg "InvalidRule" (c 1)) : FnOk P w K mg base (L2N.CX P w) 3 f fd ["rule", "family"] (spX K c R_need_rule) := by
  refine okX F sc_need_rule (fun ds o h => by obtain ⟨_, _, _, _, _, _, rfl, _⟩ := h; rfl) fun cdv A outer s H G E σ ds o Q hr hR sh en tk qv qx => ?_
  obtain ⟨d, n, x, m, hm, hd, rfl, rfl⟩ := hR
  refine s_when (t_not (t_val (e_call F1 hr (a_cons (e_v 0) (a_cons (e_at (e_v 1) rfl) a_nil)) ⟨d, n, m, hm, hd, rfl, rfl⟩))) same_nil sh en (fun hb G1 H1 f1 en1 => ?_) fun hb G1 H1 f1 en1 => wB_nil ?_
  · have hb : isRuleD d n = false := by simpa using hb
    exact s_raise T tk (qx 1 (by rw [hb]; rfl) _ _ f1)
  · have hb : isRuleD d n = true := by simpa using hb
    exact qv .non (by rw [hb]; rfl) _ _ _ f1 .non
theorem RuleOk.need {n : Int} {r : Rule} {x : D} (h : RuleOk n r) (hn : n ≤ 5) : R_need_rule [dRule r, .tup [.int n, x]] (.val .non) := ⟨_, n, x, 2, by decide, dRule_sm h hn, rfl, by rw [h.is]; rfl⟩
/-! ### is_worths_for, need_worths -/
def isWorthsD (d : D) (n : Int) : Bool := match d with
  | .tup ds => decide ((ds.length : Int) = n) && ds.all fun y => wholeD y 1 1000000
  | _ => false
structure WOk (n : Int) (ws : List Int) : Prop where
  len : (ws.length : Int) = n
  low : ∀ x ∈ ws, 1 ≤ x ∧ x ≤ 1000000
theorem WOk.is {n : Int} {ws : List Int} (h : WOk n ws) : isWorthsD (dS ws) n = true := by
  show (decide (((ws.map D.int).length : Int) = n) && (ws.map D.int).all fun y => wholeD y 1 1000000) = true
  rw [List.length_map, decide_eq_true h.len, Bool.true_and, List.all_eq_true]
  intro d hd
  obtain ⟨x, hx, rfl⟩ := List.mem_map.mp hd
  obtain ⟨h3, h4⟩ := h.low x hx
  simp [wholeD, h3, h4]
theorem WOk.sm {n : Int} {ws : List Int} (h : WOk n ws) (hn : n ≤ 5) : Sm 1 (dS ws) := .tup (by rw [List.length_map]; have := h.len; omega) fun d hd => by
  obtain ⟨x, hx, rfl⟩ := List.mem_map.mp hd
  exact .int x
def R_is_worths_for (ds : List D) (d : D) : Prop := ∃ (v : D) (n : Int) (m : Nat), m ≤ 60 ∧ Sm m v ∧ ds = [v, .int n] ∧ d = .bl (isWorthsD v n)
def R_need_worths (ds : List D) (o : Out) : Prop := ∃ (v : D) (n : Int) (x : D) (m : Nat), m ≤ 60 ∧ Sm m v ∧ ds = [v, .tup [.int n, x]] ∧ o = (if isWorthsD v n then .val .non else .exc 2)
theorem WOk.need {n : Int} {ws : List Int} {x : D} (h : WOk n ws) (hn : n ≤ 5) : R_need_worths [dS ws, .tup [.int n, x]] (.val .non) := ⟨_, n, x, 1, by decide, h.sm hn, rfl, by rw [h.is]; rfl⟩
/-! ### set_row, worth -/
def setRow (s : List Int) (n : Int) : List Int := (List.range n.toNat).map fun (t : Nat) => if s.contains (t : Int) then 1 else 0
theorem setRow_len (s : List Int) (n : Int) : (setRow s n).length = n.toNat := by unfold setRow; rw [List.length_map, List.length_range]
def R_set_row (ds : List D) (d : D) : Prop := ∃ (s : List Int) (n : Int), 0 ≤ n ∧ n ≤ 1000 ∧ ds = [dS s, .int n] ∧ d = dS (setRow s n)
theorem sc_set_row : FnScope ["some", "things", "thing"] ["some", "things"] (defScope s_set_row) := ⟨rfl, rfl, rfl, by decide +kernel, rfl, by decide +kernel, by decide +kernel⟩
theorem rc_intB2 {k : Bool} : RdC K H0 (fun xs H Q => (∃ i, xs = [.int i] ∧ Q (.int i) H) ∨ ∃ k, xs = [.bl k] ∧ Q (.int (if k then 1 else 0)) H) [.bl k] (.int (if k then 1 else 0)) := fun xs G H _ s r Q q => by
  cases r with
  | cons r1 r2 =>
    cases r2
    rw [r1.bl_of]
    exact .inr ⟨k, rfl, q _ _ _ (Fr.refl s) (.int _)⟩
theorem ok_set_row {f : Addr} {fd : FuncData} (F : Fun K "set_row" "set_row" s_set_row f fd) (B : Blt mg) : FnOk P w K mg base CX0 1 f fd ["some", "things"] (spR K R_set_row) := by
  refine okD F sc_set_row (fun ds d h => by obtain ⟨_, _, _, _, rfl, _⟩ := h; rfl) fun cdv A outer s H G E σ ds d Q hr hR sh en q => ?_
  obtain ⟨ss, n, h0, hn, rfl, rfl⟩ := hR
  have hN := sc_set_row.nd
  refine s_ret (d := dS (setRow ss n)) ((e_tuple B (l_lc 2 (c_map (fun t : Nat => D.int (t : Int)) (List.range n.toNat) (fun t => D.int (if ss.contains (t : Int) then 1 else 0)) 2 (i_range1 B.range_ (e_v 1) (by omega)) (by rw [List.length_range]; omega) fun t ht _ _ _ _ _ => e_callT call_int1 B.int_ (a_cons (e_cmp op_in_seq (e_v 2) (e_v 0) rd_inT) a_nil) rc_intB2)).ev).is ?_) same_nil sh en q
  unfold setRow dS
  rw [List.map_map]
  rfl
def dot (row ws : List Int) : Int := ((List.range row.length).map fun (i : Nat) => row.getD i 0 * ws.getD i 0).sum
def R_worth (ds : List D) (d : D) : Prop := ∃ (row ws : List Int), row.length ≤ ws.length ∧ row.length ≤ 1000 ∧ (∀ x ∈ row, -(2 ^ 64) < x ∧ x < 2 ^ 64) ∧ ds = [dS row, dS ws] ∧ d = .int (dot row ws)
theorem atI_nat {α : Type} {l : List α} {i : Nat} {a : α} (h : l[i]? = some a) : atI l (i : Int) = some a := by
  unfold atI ixN
  have hl := (List.getElem?_eq_some_iff.mp h).1
  rw [if_pos (Int.natCast_nonneg i), if_pos (by omega), Int.toNat_natCast]
  exact h
theorem getD_map {l : List Int} {i : Nat} (h : i < l.length) : (l.map D.int)[i]? = some (.int (l.getD i 0)) := by
  rw [List.getElem?_map, List.getElem?_eq_getElem h, List.getD_eq_getElem?_getD, List.getElem?_eq_getElem h]
  rfl
end

end G9
namespace G9
open PySem PySem.Spec PyProof.Rows L2 G9S
open L2H HotX
section
variable {P : Program} {w : World} {K : PySem.W.Frag} {mg : Str → Option Value} {base : Heap} {H0 : Hp} {c : Nat → Addr}
theorem sc_is_worths_for : FnScope ["value", "things", "one"] ["value", "things"] (defScope s_is_worths_for) := ⟨rfl, rfl, rfl, by decide +kernel, rfl, by decide +kernel, by decide +kernel⟩
theorem ok_is_worths_for {f : Addr} {fd : FuncData} (F : Fun K "is_worths_for" "is_worths_for" s_is_worths_for f fd) (B : Blt mg) (mM : ∃ t, mg "MOST_WORTH" = some (.int 1000000 t)) (F1 : Fn P w K mg base "is_whole" 1 (spR K R_is_whole)) : FnOk P w K mg base CX0 2 f fd ["value", "things"] (spR K R_is_worths_for) := by
  refine okD F sc_is_worths_for (fun ds d h => by obtain ⟨_, _, _, _, _, rfl, _⟩ := h; rfl) fun cdv A outer s H G E σ ds d Q hr hR sh en q => ?_
  obtain ⟨v, n, m, hm, hv, rfl, rfl⟩ := hR
  obtain ⟨tM, mM⟩ := mM
  have hN := sc_is_worths_for.nd
  by_cases hnt : ∃ ds, v = .tup ds
  · obtain ⟨es, rfl⟩ := hnt
    obtain ⟨m, rfl, hl3, hm3⟩ := hv.tup_inv
    refine s_when (b := !decide ((es.length : Int) = n)) ((t_or2 (t_not (t_val (e_isi "tuple" (t := "tuple") (k := true) B (e_v 0) rfl (by decide +kernel) B.tuple_))) fun _ => t_cmp op_ne (e_lenT B (e_v 0)) (e_v 1) rd_neI).is (by simp)) same_nil sh en (fun hz2 G3 H3 f3 en3 => ?_) fun hz2 G3 H3 f3 en3 => ?_
    · have hz2 : ¬ (es.length : Int) = n := by simpa using hz2
      refine s_ret (d := .bl (isWorthsD (.tup es) n)) (e_bl.is ?_) same_nil f3.s en3 fun v G4 H4 f4 r4 => q v G4 H4 (f3.trans f4) r4
      rw [isWorthsD, decide_eq_false hz2]
      rfl
    · have hz2 : (es.length : Int) = n := by simpa using hz2
      rw [isWorthsD, decide_eq_true hz2, Bool.true_and] at q
      exact s_ret (e_all B (l_lc 2 (c_map id es (fun y => D.bl (wholeD y 1 1000000)) 2 ((i_tup (e_v 0)).is (by simp)) (by omega) fun y hy _ _ _ _ _ => e_call F1 hr (a_cons (e_v 2) (a_cons e_int (a_cons (e_glob (v := .int 1000000) mM ⟨_, rfl⟩ fun _ => .int 1000000) a_nil))) ⟨y, 1, 1000000, (hm3 y hy).ty, rfl, rfl⟩))) same_nil f3.s en3 fun v G4 H4 f4 r4 => q v G4 H4 (f3.trans f4) r4
  · obtain ⟨t2, ht2, hk2⟩ := not_tup hv hnt
    refine s_when (b := true) ((t_or2 (l := false) (t_not (t_val (e_isi "tuple" (t := t2) (k := false) B (e_v 0) ht2 hk2 B.tuple_))) fun h => nomatch h).is (by simp)) same_nil sh en (fun _ G3 H3 f3 en3 => ?_) fun z => nomatch z
    refine s_ret (d := .bl (isWorthsD v n)) (e_bl.is ?_) same_nil f3.s en3 fun v G4 H4 f4 r4 => q v G4 H4 (f3.trans f4) r4
    cases v with
    | tup es => exact absurd ⟨es, rfl⟩ hnt
    | _ => rfl
theorem sc_need_worths : FnScope ["worths", "family"] ["worths", "family"] (defScope s_need_worths) := ⟨rfl, rfl, rfl, by decide +kernel, rfl, by decide +kernel, by decide +kernel⟩
theorem ok_need_worths {f : Addr} {fd : FuncData} (F : Fun K "need_worths" "need_worths" s_need_worths f fd) (F1 : Fn P w K mg base "is_worths_for" 2 (spR K R_is_worths_for)) (T : ExcT K mg "InvalidWorths" (c 2)) : FnOk P w K mg base (L2N.CX P w) 3 f fd ["worths", "family"] (spX K c R_need_worths) := by
  refine okX F sc_need_worths (fun ds o h => by obtain ⟨_, _, _, _, _, _, rfl, _⟩ := h; rfl) fun cdv A outer s H G E σ ds o Q hr hR sh en tk qv qx => ?_
  obtain ⟨d, n, x, m, hm, hd, rfl, rfl⟩ := hR
  refine s_when (t_not (t_val (e_call F1 hr (a_cons (e_v 0) (a_cons (e_at (e_v 1) rfl) a_nil)) ⟨d, n, m, hm, hd, rfl, rfl⟩))) same_nil sh en (fun hb G1 H1 f1 en1 => ?_) fun hb G1 H1 f1 en1 => wB_nil ?_
  · have hb : isWorthsD d n = false := by simpa using hb
    exact s_raise T tk (qx 2 (by rw [hb]; rfl) _ _ f1)
  · have hb : isWorthsD d n = true := by simpa using hb
    exact qv .non (by rw [hb]; rfl) _ _ _ f1 .non
theorem sc_worth : FnScope ["row", "worths", "at", "one"] ["row", "worths"] (defScope s_worth) := ⟨rfl, rfl, rfl, by decide +kernel, rfl, by decide +kernel, by decide +kernel⟩
theorem ok_worth {f : Addr} {fd : FuncData} (F : Fun K "worth" "worth" s_worth f fd) (B : Blt mg) : FnOk P w K mg base CX0 1 f fd ["row", "worths"] (spR K R_worth) := by
  refine okD F sc_worth (fun ds d h => by obtain ⟨_, _, _, _, _, rfl, _⟩ := h; rfl) fun cdv A outer s H G E σ ds d Q hr hR sh en q => ?_
  obtain ⟨row, ws, hl, hz, hb, rfl, rfl⟩ := hR
  have hN := sc_worth.nd
  have src : enumD (row.map D.int) = (List.range row.length).map fun (i : Nat) => D.tup [.int (i : Int), .int (row.getD i 0)] := by
    unfold enumD
    rw [List.length_map]
    refine List.map_congr_left fun i hi => ?_
    rw [List.getD_eq_getElem?_getD, getD_map (List.mem_range.mp hi)]
    rfl
  refine s_ret (e_sum B (xs := List.range row.length) (g := fun i => row.getD i 0 * ws.getD i 0) ?_) same_nil sh en q
  refine EvL.is (l_lc2 2 3 (fun (i : Nat) => (D.int (i : Int), D.int (row.getD i 0))) (List.range row.length) (fun _ => true) (fun i => D.int (row.getD i 0 * ws.getD i 0)) ((i_enumT B.enumerate_ (e_v 0)).is src) (by rw [List.length_range]; omega) (fun _ _ _ _ _ _ _ => ts_nil) fun i hi _ _ _ _ _ _ => e_op op_mul (e_v 3) (e_ix ix_tup (e_v 1) (e_v 2) (rd_ixT (atI_nat (getD_map (by have := List.mem_range.mp hi; omega))))) (rd_ic (.inl (hb _ ?_)))) ?_
  · rw [List.getD_eq_getElem?_getD, List.getElem?_eq_getElem (List.mem_range.mp hi)]
    exact List.getElem_mem _
  · rw [List.filter_eq_self.mpr fun _ _ => rfl]
end

end G9
namespace G9
open PySem PySem.Spec PyProof.Rows L2 G9S
open L2H HotX
section
variable {P : Program} {w : World} {K : PySem.W.Frag} {mg : Str → Option Value} {base : Heap} {H0 : Hp} {c : Nat → Addr}
def R_divisor (ds : List D) (d : D) : Prop := ∃ a b : Int, ds = [.int a, .int b] ∧ d = .int (Int.gcd a b : Nat)
theorem sc_divisor : FnScope ["one", "other"] ["one", "other"] (defScope s_divisor) := ⟨rfl, rfl, rfl, by decide +kernel, rfl, by decide +kernel, by decide +kernel⟩
theorem e_abs {X : Cx} {ρ : Ro} {e : Expr} {i : Int} {p pos : Pos} (B : Blt X.mg) (h : Ev X H0 ρ e (.int i)) (hg : Gl X "abs" := by rfl) (he : starEach [e] X.env = (false, eval e X.env) :: starEach [] X.env := by rfl) (hpl : (backTo pos (starEach [] X.env)).any (·.1) = false := by rfl) : Ev X H0 ρ (.Call (.Name "abs" p) [e] [] pos) (.int (i.natAbs : Int)) :=
  e_callB call_abs B.abs_ (a_cons h a_nil he) (fun xs G H _ s r Q q => by
    cases r with
    | cons r1 r2 =>
      cases r2
      refine ⟨i, by rw [r1.int_of], ?_⟩
      have e : (if i < 0 then -i else i) = (i.natAbs : Int) := by split <;> omega
      rw [e]
      exact q _ _ _ (Fr.refl s) (.int _)) (by decide +kernel) hg (by decide) (by decide) he hpl
theorem s_par {X : Cx} {ρ : Ro} {x y : Str} {px py pt pos : Pos} {kt k2 pt2} {e1 e2 : Expr} {d1 d2 : D} {σ : L2.St} {G H : Hp} {rest : List Stmt} {N : Ends} (i j : Nat) (h1 : Ev X H0 ρ e1 d1) (h2 : Ev X H0 ρ e2 d2) (sg : Same H0 G) (sh : Same G H) (en : En X.K G σ ρ) (k : ∀ σ' G' H', Fr G H G' H' → En X.K G' σ' ((ρ.set i (some d1)).set j (some d2)) → wB X rest N σ' H')
    (hN : X.N.Nodup := by assumption) (hi : X.N[i]? = some x := by rfl) (hj : X.N[j]? = some y := by rfl) (hij : i ≠ j := by decide) (hx : X.env.scope.names.lookup x = some .local := by rfl) (hy : X.env.scope.names.lookup y = some .local := by rfl)
    (hw : swappedStores [.Tuple [.Name x px, .Name y py] kt pt] (.Tuple [e1, e2] k2 pt2) X.env = pure (some [x, y]) := by rfl) (hs : swapsWithSole [.Tuple [.Name x px, .Name y py] kt pt] (.Tuple [e1, e2] k2 pt2) pos.line X.env = pure false := by rfl) (hc : X.calm = true := by rfl)
    (he : starEach [e1, e2] X.env = (false, eval e1 X.env) :: starEach [e2] X.env := by rfl) (he2 : starEach [e2] X.env = (false, eval e2 X.env) :: starEach [] X.env := by rfl) :
    wB X (.Assign [.Tuple [.Name x px, .Name y py] kt pt] (.Tuple [e1, e2] k2 pt2) pos :: rest) N σ H :=
  wB_cons (wS_of (ps_par hc hN hi hj hij hx hy (pa_cons pw (pa_cons pw pa_nil he2) he) hw hs) (two h1 h2 sg sh en fun x y G1 H1 f1 r1 r2 => ⟨_, _, rfl, k _ G1 H1 f1 (((en.up f1.g).set i r1).set j r2)⟩))
theorem ok_divisor {f : Addr} {fd : FuncData} (F : Fun K "divisor" "divisor" s_divisor f fd) (B : Blt mg) : FnOk P w K mg base CX0 1 f fd ["one", "other"] (spR K R_divisor) := by
  refine okD F sc_divisor (fun ds d h => by obtain ⟨_, _, rfl, _⟩ := h; rfl) fun cdv A outer s H G E σ ds d Q hr hR sh en q => ?_
  obtain ⟨a, b, rfl, rfl⟩ := hR
  have hN := sc_divisor.nd
  refine s_par 0 1 (e_abs B (e_v 0)) (e_abs B (e_v 1)) same_nil sh en fun σ1 G1 H1 f1 en1 => ?_
  refine s_while (fun m ρ' G' H' => ∃ x y : Nat, ρ' = [some (.int (x : Int)), some (.int (y : Int))] ∧ y = m ∧ Nat.gcd x y = Int.gcd a b ∧ Fr G H G' H') b.natAbs f1.s en1 ⟨a.natAbs, b.natAbs, rfl, rfl, rfl, f1⟩ fun m ρ' σ' G' H' hJ s' en' => ?_
  obtain ⟨x, y, rfl, rfl, hg, fr⟩ := hJ
  refine ⟨!decide ((y : Int) = 0), t_cmp op_ne (e_v 1) e_int rd_neI, fun hk G3 H3 f3 en3 => ?_, fun hk G3 H3 f3 en3 => ?_⟩
  · have hy : 0 < y := by
      have : ¬ (y : Int) = 0 := by simpa using hk
      omega
    refine s_par 0 1 (e_v 1) (e_op op_mod (e_v 0) (e_v 1) (rd_ic (by omega))) same_nil f3.s en3 fun σ4 G4 H4 f4 en4 => wB_nil ⟨x % y, _, G4, Nat.mod_lt _ hy, f4.s, en4, y, x % y, by rw [show ((x : Int) % (y : Int)) = ((x % y : Nat) : Int) from rfl]; rfl, rfl, ?_, (fr.trans f3).trans f4⟩
    rw [← hg, Nat.gcd_comm x y, Nat.gcd_rec y x, Nat.gcd_comm]
  · have hy : y = 0 := by
      have : (y : Int) = 0 := by simpa using hk
      omega
    subst hy
    rw [Nat.gcd_zero_right] at hg
    refine s_ret (d := .int (Int.gcd a b : Nat)) ((e_v 0).is (by rw [← hg])) same_nil f3.s en3 fun v G4 H4 f4 r4 => q v G4 H4 ((fr.trans f3).trans f4) r4
end

end G9
namespace G9
open PySem PySem.Spec PyProof.Rows L2 G9S
open L2H HotX
section
variable {P : Program} {w : World} {K : PySem.W.Frag} {mg : Str → Option Value} {base : Heap} {c : Nat → Addr}
def isShareD (d : D) : Bool := match d with
  | .tup [.int a, .int b] => (decide (1 ≤ a) && decide (a ≤ 1000)) && ((decide (1 ≤ b) && decide (b ≤ 1000)) && (decide (Int.gcd a b = 1) && decide (a ≤ b)))
  | _ => false
def R_is_share (ds : List D) (d : D) : Prop := ∃ (v : D) (m : Nat), m ≤ 60 ∧ Sm m v ∧ ds = [v] ∧ d = .bl (isShareD v)
theorem sc_is_share : FnScope ["value", "one"] ["value"] (defScope s_is_share) := ⟨rfl, rfl, rfl, by decide +kernel, rfl, by decide +kernel, by decide +kernel⟩
theorem ok_is_share {f : Addr} {fd : FuncData} (F : Fun K "is_share" "is_share" s_is_share f fd) (B : Blt mg) (F1 : Fn P w K mg base "is_whole" 1 (spR K R_is_whole)) (F2 : Fn P w K mg base "divisor" 1 (spR K R_divisor)) : FnOk P w K mg base CX0 2 f fd ["value"] (spR K R_is_share) := by
  refine okD F sc_is_share (fun ds d h => by obtain ⟨_, _, _, _, rfl, _⟩ := h; rfl) fun cdv A outer s H G E σ ds d Q hr hR sh en q => ?_
  obtain ⟨v, m, hm, hv, rfl, rfl⟩ := hR
  have hN := sc_is_share.nd
  by_cases hnt : ∃ ds, v = .tup ds
  · obtain ⟨es, rfl⟩ := hnt
    obtain ⟨m, rfl, hl3, hm3⟩ := hv.tup_inv
    have hall : ∀ {ρ : Ro}, ρ = [some (.tup es), none] → Ev ((cxOf CX0 P w K mg base ["value", "one"] "is_share" (defScope s_is_share) f cdv A outer s H E).nox) Nil ρ (match (defBody s_is_share).getD 0 (.Pass ⟨0, 0, 0, 0⟩) with | .If (.BoolOp _ [_, _, .UnaryOp _ e _] _) _ _ _ => e | _ => .Name "x" ⟨0, 0, 0, 0⟩) (.bl (es.all fun y => wholeD y 1 1000)) := fun {ρ} e => by
      subst e
      exact e_all B (l_lc 1 (c_map id es (fun y => D.bl (wholeD y 1 1000)) 1 ((i_tup (e_v 0)).is (by simp)) (by omega) fun y hy _ _ _ _ _ => e_call F1 hr (a_cons (e_v 1) (a_cons e_int (a_cons e_int a_nil))) ⟨y, 1, 1000, (hm3 y hy).ty, rfl, rfl⟩))
    refine s_when (b := !(decide ((es.length : Int) = 2) && es.all fun y => wholeD y 1 1000)) (EvT.is (t_or3 (t_not (t_val (e_isi "tuple" (t := "tuple") (k := true) B (e_v 0) rfl (by decide +kernel) B.tuple_))) (fun _ => t_cmp op_ne (e_lenT B (e_v 0)) e_int rd_neI) fun _ _ => t_not (t_val (hall rfl))) (by cases decide ((es.length : Int) = 2) <;> cases (es.all fun y => wholeD y 1 1000) <;> rfl)) same_nil sh en (fun hz G3 H3 f3 en3 => ?_) fun hz G3 H3 f3 en3 => ?_
    · refine s_ret (d := .bl (isShareD (.tup es))) (e_bl.is ?_) same_nil f3.s en3 fun v G4 H4 f4 r4 => q v G4 H4 (f3.trans f4) r4
      have hz : (decide ((es.length : Int) = 2) && es.all fun y => wholeD y 1 1000) = false := by
        cases h : (decide ((es.length : Int) = 2) && es.all fun y => wholeD y 1 1000) with
        | false => rfl
        | true => rw [h] at hz; cases hz
      congr 1
      symm
      unfold isShareD
      split
      · rename_i a b e
        cases e
        have h1 : ([.int a, .int b] : List D).all (fun y => wholeD y 1 1000) = false := by simpa using hz
        have h2 : ((decide (1 ≤ a) && decide (a ≤ 1000)) && (decide (1 ≤ b) && decide (b ≤ 1000))) = false := by
          rw [← h1]
          simp [wholeD]
        revert h2
        cases (decide (1 ≤ a) && decide (a ≤ 1000)) <;> cases (decide (1 ≤ b) && decide (b ≤ 1000)) <;> simp
      · rfl
    · have hz : (decide ((es.length : Int) = 2) && es.all fun y => wholeD y 1 1000) = true := by
        cases h : (decide ((es.length : Int) = 2) && es.all fun y => wholeD y 1 1000) with
        | true => rfl
        | false => rw [h] at hz; cases hz
      rw [Bool.and_eq_true, decide_eq_true_eq] at hz
      obtain ⟨x, y, rfl⟩ : ∃ x y, es = [x, y] := by
        match es, hz.1 with
        | [x, y], _ => exact ⟨x, y, rfl⟩
        | [], h => simp at h
        | [x], h => simp at h
        | x :: y :: z :: r, h => simp at h; omega
      have h2 : wholeD x 1 1000 = true ∧ wholeD y 1 1000 = true := by simpa using hz.2
      have whole_int : ∀ z, wholeD z 1 1000 = true → ∃ i, z = .int i ∧ 1 ≤ i ∧ i ≤ 1000 := fun z hz => by
        unfold wholeD at hz
        split at hz
        · rename_i i
          rw [Bool.and_eq_true, decide_eq_true_eq, decide_eq_true_eq] at hz
          exact ⟨i, rfl, hz⟩
        · cases hz
      obtain ⟨a, rfl, a1, a2⟩ := whole_int x h2.1
      obtain ⟨b, rfl, b1, b2⟩ := whole_int y h2.2
      refine s_ret (d := .bl (isShareD (.tup [.int a, .int b]))) (Ev.is (e_and (k := decide (((Int.gcd a b : Nat) : Int) = 1)) (e_cmp op_eq (e_call F2 hr (a_cons (e_at (d := .int a) (e_v 0) rfl) (a_cons (e_at (d := .int b) (e_v 0) rfl) a_nil)) ⟨a, b, rfl, rfl⟩) e_int rd_eqI) fun _ => e_one (e_cmp op_le (e_at (d := .int a) (e_v 0) rfl) (e_at (d := .int b) (e_v 0) rfl) rd_b)) ?_) same_nil f3.s en3 fun v G4 H4 f4 r4 => q v G4 H4 (f3.trans f4) r4
      congr 1
      show _ = ((decide (1 ≤ a) && decide (a ≤ 1000)) && ((decide (1 ≤ b) && decide (b ≤ 1000)) && (decide (Int.gcd a b = 1) && decide (a ≤ b))))
      rw [decide_eq_true a1, decide_eq_true a2, decide_eq_true b1, decide_eq_true b2]
      have : decide (((Int.gcd a b : Nat) : Int) = 1) = decide (Int.gcd a b = 1) := decide_eq_decide.mpr ⟨fun z => by omega, fun z => by omega⟩
      rw [this]
      simp
  · obtain ⟨t2, ht2, hk2⟩ := not_tup hv hnt
    refine s_when (b := true) (EvT.is (t_or3 (l := false) (m := false) (t_not (t_val (e_isi "tuple" (t := t2) (k := false) B (e_v 0) ht2 hk2 B.tuple_))) (fun h => nomatch h) fun h => nomatch h) rfl) same_nil sh en (fun _ G3 H3 f3 en3 => ?_) fun z => nomatch z
    refine s_ret (d := .bl (isShareD v)) (e_bl.is ?_) same_nil f3.s en3 fun v G4 H4 f4 r4 => q v G4 H4 (f3.trans f4) r4
    cases v with
    | tup es => exact absurd ⟨es, rfl⟩ hnt
    | _ => rfl
end

end G9
namespace G9
open PySem PySem.Spec PyProof.Rows L2 G9S
open L2H HotX
section
variable {P : Program} {w : World} {K : PySem.W.Frag} {mg : Str → Option Value} {base : Heap} {c : Nat → Addr}
def R_lowX (ds : List D) (o : Out) : Prop := ∃ (n : Int) (f : List (List Int)) (r : Rule) (d3 : D) (m : Nat), FamOk n f ∧ RuleOk n r ∧ m ≤ 60 ∧ Sm m d3 ∧ isShareD d3 = false ∧ ds = [dFam n f, dRule r, d3] ∧ o = .exc 3
theorem sc_lowX : FnScope ["family", "rule", "told"] ["family", "rule", "told"] (defScope s_low_worths) := ⟨rfl, rfl, rfl, by decide +kernel, rfl, by decide +kernel, by decide +kernel⟩
theorem ok_lowX {f : Addr} {fd : FuncData} (F : Fun K "low_worths" "low_worths" s_low_worths f fd) (F1 : FnX P w K mg base "need_family" 4 (spX K c R_needF)) (F2 : FnX P w K mg base "need_rule" 3 (spX K c R_need_rule)) (F3 : Fn P w K mg base "is_share" 2 (spR K R_is_share)) (T : ExcT K mg "InvalidShare" (c 3)) : FnOk P w K mg base (L2N.CX P w) 5 f fd ["family", "rule", "told"] (spX K c R_lowX) := by
  refine okX F sc_lowX (fun ds o h => by obtain ⟨_, _, _, _, _, _, _, _, _, _, rfl, _⟩ := h; rfl) fun cdv A outer s H G E σ ds o Q hr hR sh en tk qv qx => ?_
  obtain ⟨n, fs, r, d3, m, fok, rok, hm, s3, no3, rfl, rfl⟩ := hR
  refine s_exprX (x_call F1 hr tk (a_cons (e_v 0) a_nil) fok.need) same_nil sh en (fun i z => nomatch z) fun _ _ G1 H1 f1 en1 => ?_
  refine s_exprX (x_call F2 (hr.mono (by decide)) tk (a_cons (e_v 1) (a_cons (e_v 0) a_nil)) (rok.need fok.n5)) same_nil f1.s en1 (fun i z => nomatch z) fun _ _ G2 H2 f2 en2 => ?_
  exact s_when (b := true) (EvT.is (t_not (k := false) (t_val (e_call F3 (hr.mono (by decide)) (a_cons (e_v 2) a_nil) ⟨d3, m, hm, s3, rfl, by rw [no3]⟩))) rfl) same_nil f2.s en2 (fun _ G3 H3 f3 en3 => s_raise T tk (qx 3 rfl _ _ ((f1.trans f2).trans f3))) fun z => nomatch z
end

end G9
namespace G9
open PySem PySem.Spec PyProof.Rows L2 G9S
open L2H HotX
/-! ### defs as far as they refuse -/
theorem fam5 : FamOk 5 [[0, 1, 2, 3, 4]] := ⟨by decide, by decide, by decide, by decide, fun o ho => by
    rw [List.mem_singleton.mp ho]
    exact ⟨by decide, by decide⟩, by decide, fun o ho p hp _ => by rw [List.mem_singleton.mp ho, List.mem_singleton.mp hp], fun t t0 tn => ⟨_, List.mem_singleton.mpr rfl, by
    rcases (by omega : t = 0 ∨ t = 1 ∨ t = 2 ∨ t = 3 ∨ t = 4) with rfl | rfl | rfl | rfl | rfl <;> decide⟩⟩
section
variable {P : Program} {w : World} {K : PySem.W.Frag} {mg : Str → Option Value} {base : Heap} {c : Nat → Addr}
def R_formX (ds : List D) (o : Out) : Prop := ∃ d, Good d ∧ isFamD d = false ∧ ds = [d] ∧ o = .exc 0
theorem sc_formX : FnScope ["family"] ["family"] (defScope s_form) := ⟨rfl, rfl, rfl, by decide +kernel, rfl, by decide +kernel, by decide +kernel⟩
theorem ok_formX {f : Addr} {fd : FuncData} (F : Fun K "form" "form" s_form f fd) (F1 : FnX P w K mg base "need_family" 4 (spX K c R_needF)) : FnOk P w K mg base (L2N.CX P w) 5 f fd ["family"] (spX K c R_formX) := by
  refine okX F sc_formX (fun ds o h => by obtain ⟨_, _, _, rfl, _⟩ := h; rfl) fun cdv A outer s H G E σ ds o Q hr hR sh en tk qv qx => ?_
  obtain ⟨d, hd, hno, rfl, rfl⟩ := hR
  exact s_exprX (o := .exc 0) (x_call F1 hr tk (a_cons (e_v 0) a_nil) ⟨d, hd, rfl, by rw [hno]; rfl⟩) same_nil sh en (fun i z G1 H1 f1 => qx i z _ _ f1) fun d z => nomatch z
def R_pickX (ds : List D) (o : Out) : Prop := ∃ (n : Int) (f : List (List Int)) (d2 d3 : D) (m : Nat), FamOk n f ∧ m ≤ 60 ∧ Sm m d2 ∧ isRuleD d2 n = false ∧ ds = [dFam n f, d2, d3] ∧ o = .exc 1
theorem sc_pickX : FnScope ["family", "rule", "worths"] ["family", "rule", "worths"] (defScope s_pick) := ⟨rfl, rfl, rfl, by decide +kernel, rfl, by decide +kernel, by decide +kernel⟩
theorem ok_pickX {f : Addr} {fd : FuncData} (F : Fun K "pick" "pick" s_pick f fd) (F1 : FnX P w K mg base "need_family" 4 (spX K c R_needF)) (F2 : FnX P w K mg base "need_rule" 3 (spX K c R_need_rule)) : FnOk P w K mg base (L2N.CX P w) 5 f fd ["family", "rule", "worths"] (spX K c R_pickX) := by
  refine okX F sc_pickX (fun ds o h => by obtain ⟨_, _, _, _, _, _, _, _, _, rfl, _⟩ := h; rfl) fun cdv A outer s H G E σ ds o Q hr hR sh en tk qv qx => ?_
  obtain ⟨n, fs, d2, d3, m, fok, hm, s2, no2, rfl, rfl⟩ := hR
  refine s_exprX (x_call F1 hr tk (a_cons (e_v 0) a_nil) fok.need) same_nil sh en (fun i z => nomatch z) fun _ _ G1 H1 f1 en1 => ?_
  exact s_exprX (o := .exc 1) (x_call F2 (hr.mono (by decide)) tk (a_cons (e_v 1) (a_cons (e_v 0) a_nil)) ⟨d2, n, _, m, hm, s2, rfl, by rw [no2]; rfl⟩) same_nil f1.s en1 (fun i z G2 H2 f2 => qx i z _ _ (f1.trans f2)) fun _ z => nomatch z
def R_bestX (ds : List D) (o : Out) : Prop := ∃ (n : Int) (f : List (List Int)) (d2 : D) (m : Nat), FamOk n f ∧ m ≤ 60 ∧ Sm m d2 ∧ isWorthsD d2 n = false ∧ ds = [dFam n f, d2] ∧ o = .exc 2
theorem sc_bestX : FnScope ["family", "worths"] ["family", "worths"] (defScope s_best_set) := ⟨rfl, rfl, rfl, by decide +kernel, rfl, by decide +kernel, by decide +kernel⟩
theorem ok_bestX {f : Addr} {fd : FuncData} (F : Fun K "best_set" "best_set" s_best_set f fd) (F1 : FnX P w K mg base "need_family" 4 (spX K c R_needF)) (F2 : FnX P w K mg base "need_worths" 3 (spX K c R_need_worths)) : FnOk P w K mg base (L2N.CX P w) 5 f fd ["family", "worths"] (spX K c R_bestX) := by
  refine okX F sc_bestX (fun ds o h => by obtain ⟨_, _, _, _, _, _, _, _, rfl, _⟩ := h; rfl) fun cdv A outer s H G E σ ds o Q hr hR sh en tk qv qx => ?_
  obtain ⟨n, fs, d2, m, fok, hm, s2, no2, rfl, rfl⟩ := hR
  refine s_exprX (x_call F1 hr tk (a_cons (e_v 0) a_nil) fok.need) same_nil sh en (fun i z => nomatch z) fun _ _ G1 H1 f1 en1 => ?_
  exact s_exprX (o := .exc 2) (x_call F2 (hr.mono (by decide)) tk (a_cons (e_v 1) (a_cons (e_v 0) a_nil)) ⟨d2, n, _, m, hm, s2, rfl, by rw [no2]; rfl⟩) same_nil f1.s en1 (fun i z G2 H2 f2 => qx i z _ _ (f1.trans f2)) fun _ z => nomatch z
/-! is_share, low_worths -/
/-! families_of -/
def R_fofX (ds : List D) (o : Out) : Prop := ∃ d, d.tyS ≠ none ∧ wholeD d 2 4 = false ∧ ds = [d] ∧ o = .exc 4
theorem sc_fofX : FnScope ["things"] ["things"] (defScope s_families_of) := ⟨rfl, rfl, rfl, by decide +kernel, rfl, by decide +kernel, by decide +kernel⟩
theorem ok_fofX {f : Addr} {fd : FuncData} (F : Fun K "families_of" "families_of" s_families_of f fd) (F1 : Fn P w K mg base "is_whole" 1 (spR K R_is_whole)) (T : ExcT K mg "InvalidThings" (c 4)) : FnOk P w K mg base (L2N.CX P w) 2 f fd ["things"] (spX K c R_fofX) := by
  refine okX F sc_fofX (fun ds o h => by obtain ⟨_, _, _, rfl, _⟩ := h; rfl) fun cdv A outer s H G E σ ds o Q hr hR sh en tk qv qx => ?_
  obtain ⟨d, hd, hno, rfl, rfl⟩ := hR
  exact s_when (b := true) (EvT.is (t_not (k := false) (t_val (e_call F1 hr (a_cons (e_v 0) (a_cons e_int (a_cons e_int a_nil))) ⟨d, 2, 4, hd, rfl, by rw [hno]⟩))) rfl) same_nil sh en (fun _ G3 H3 f3 en3 => s_raise T tk (qx 4 rfl _ _ f3)) fun z => nomatch z
/-! need_all, alike -/
def R_allX (ds : List D) (o : Out) : Prop := ∃ (f : List (List Int)) (r r2 : Rule), FamOk 5 f ∧ RuleOk 5 r ∧ RuleOk 5 r2 ∧ ds = [dFam 5 f, dRule r, dRule r2] ∧ o = .exc 6
theorem sc_allX : FnScope ["family", "rule", "other"] ["family", "rule", "other"] (defScope s_need_all) := ⟨rfl, rfl, rfl, by decide +kernel, rfl, by decide +kernel, by decide +kernel⟩
theorem ok_allX {f : Addr} {fd : FuncData} (F : Fun K "need_all" "need_all" s_need_all f fd) (mM : ∃ t, mg "MOST_COMPARED" = some (.int 4 t)) (F1 : FnX P w K mg base "need_family" 4 (spX K c R_needF)) (F2 : FnX P w K mg base "need_rule" 3 (spX K c R_need_rule)) (T : ExcT K mg "TooMany" (c 6)) : FnOk P w K mg base (L2N.CX P w) 5 f fd ["family", "rule", "other"] (spX K c R_allX) := by
  refine okX F sc_allX (fun ds o h => by obtain ⟨_, _, _, _, _, _, rfl, _⟩ := h; rfl) fun cdv A outer s H G E σ ds o Q hr hR sh en tk qv qx => ?_
  obtain ⟨fs, r, r2, fok, rok, rok2, rfl, rfl⟩ := hR
  obtain ⟨tM, mM⟩ := mM
  have hr3 := hr.mono (show 3 ≤ 4 by decide)
  refine s_exprX (x_call F1 hr tk (a_cons (e_v 0) a_nil) fok.need) same_nil sh en (fun i z => nomatch z) fun _ _ G1 H1 f1 en1 => ?_
  refine s_exprX (x_call F2 hr3 tk (a_cons (e_v 1) (a_cons (e_v 0) a_nil)) (rok.need fok.n5)) same_nil f1.s en1 (fun i z => nomatch z) fun _ _ G2 H2 f2 en2 => ?_
  refine s_exprX (x_call F2 hr3 tk (a_cons (e_v 2) (a_cons (e_v 0) a_nil)) (rok2.need fok.n5)) same_nil f2.s en2 (fun i z => nomatch z) fun _ _ G3 H3 f3 en3 => ?_
  exact s_when (b := true) (EvT.is (t_cmp op_gt (e_at (d := .int 5) (e_v 0) rfl) (e_glob (v := .int 4) mM ⟨_, rfl⟩ fun _ => .int 4) rd_b) rfl) same_nil f3.s en3 (fun _ G4 H4 f4 en4 => s_raise T tk (qx 6 rfl _ _ (((f1.trans f2).trans f3).trans f4))) fun z => nomatch z
theorem sc_alikeX : FnScope ["family", "rule", "other"] ["family", "rule", "other"] (defScope s_alike) := ⟨rfl, rfl, rfl, by decide +kernel, rfl, by decide +kernel, by decide +kernel⟩
theorem ok_alikeX {f : Addr} {fd : FuncData} (F : Fun K "alike" "alike" s_alike f fd) (F1 : FnX P w K mg base "need_all" 5 (spX K c R_allX)) : FnOk P w K mg base (L2N.CX P w) 6 f fd ["family", "rule", "other"] (spX K c R_allX) := by
  refine okX F sc_alikeX (fun ds o h => by obtain ⟨_, _, _, _, _, _, rfl, _⟩ := h; rfl) fun cdv A outer s H G E σ ds o Q hr hR sh en tk qv qx => ?_
  obtain ⟨fs, r, r2, fok, rok, rok2, rfl, rfl⟩ := hR
  exact s_exprX (o := .exc 6) (x_call F1 hr tk (a_cons (e_v 0) (a_cons (e_v 1) (a_cons (e_v 2) a_nil))) ⟨fs, r, r2, fok, rok, rok2, rfl, rfl⟩) same_nil sh en (fun i z G1 H1 f1 => qx i z _ _ f1) fun _ z => nomatch z
end

end G9
namespace G9
open PySem PySem.Spec PyProof.Rows L2 G9S
/-! ### sets, families, exchanges (plain) -/
theorem iota_in {n : Int} : SetIn n (iotaI n.toNat) := setIn_of (List.Sublist.refl _)
theorem subs_sub (ts : List Int) : ∀ (acc : List (List Int)) (o : List Int), o ∈ ts.foldl (fun acc t => acc ++ acc.map (· ++ [t])) acc → ∃ p ∈ acc, ∃ q, q.Sublist ts ∧ o = p ++ q := by
  induction ts with
  | nil => intro acc o ho; exact ⟨o, ho, [], List.Sublist.refl _, by simp⟩
  | cons t ts ih =>
    intro acc o ho
    rw [List.foldl_cons] at ho
    obtain ⟨p, hp, q, hq, rfl⟩ := ih _ o ho
    rcases List.mem_append.mp hp with hp | hp
    · exact ⟨p, hp, q, hq.cons t, rfl⟩
    · obtain ⟨p', hp', rfl⟩ := List.mem_map.mp hp
      exact ⟨p', hp', t :: q, hq.cons₂ t, by simp⟩
theorem sub_in {n : Int} {q : List Int} (h : q.Sublist (iotaI n.toNat)) : SetIn n q := ⟨iota_in.asc.sublist h, fun x hx => iota_in.low x (h.mem hx)⟩
theorem subsets_in {n : Int} {o : List Int} (ho : o ∈ subsets n) : SetIn n o := by
  have := (isort_perm _).mem_iff.mp ho
  obtain ⟨p, hp, q, hq, rfl⟩ := subs_sub _ _ _ this
  rw [List.mem_singleton.mp hp, List.nil_append]
  exact sub_in hq
theorem mayB_iff {f : List (List Int)} {s : List Int} : mayB f s = true ↔ ∃ o ∈ f, ∀ x ∈ s, x ∈ o := by
  unfold mayB
  rw [List.any_eq_true]
  exact ⟨fun ⟨o, h1, h2⟩ => ⟨o, h1, subB_iff.mp h2⟩, fun ⟨o, h1, h2⟩ => ⟨o, h1, subB_iff.mpr h2⟩⟩
def addT (r : List Int) (t : Int) : List Int := isort ltI (r ++ [t])
theorem addT_mem {r : List Int} {t x : Int} : x ∈ addT r t ↔ x ∈ r ∨ x = t := by
  unfold addT
  rw [(isort_perm _).mem_iff, List.mem_append, List.mem_singleton]
theorem addT_asc {r : List Int} {t : Int} (h : r.Pairwise (· < ·)) (ht : t ∉ r) : (addT r t).Pairwise (· < ·) := by
  have hnd : (r ++ [t]).Nodup := List.nodup_append.mpr ⟨asc_nodup h, by simp, fun a ha b hb => by
    rw [List.mem_singleton.mp hb]
    intro e
    exact ht (e ▸ ha)⟩
  have h1 := isort_le stoI (r ++ [t])
  have h2 : (isort ltI (r ++ [t])).Nodup := (isort_perm _).nodup_iff.mpr hnd
  unfold addT
  have := List.Pairwise.and h1 h2
  exact this.imp fun {a b} ⟨h3, h4⟩ => by
    have h3 : ¬ b < a := of_decide_eq_false h3
    omega
theorem addT_in {n : Int} {r : List Int} {t : Int} (h : SetIn n r) (ht : t ∉ r) (h0 : 0 ≤ t) (hn : t < n) : SetIn n (addT r t) := ⟨addT_asc h.asc ht, fun x hx => by
  rcases addT_mem.mp hx with hx | rfl
  · exact h.low x hx
  · exact ⟨h0, hn⟩⟩
theorem may_mono {f : List (List Int)} {s u : List Int} (h : ∀ x ∈ s, x ∈ u) (hu : mayB f u = true) : mayB f s = true := by
  obtain ⟨o, ho, h1⟩ := mayB_iff.mp hu
  exact mayB_iff.mpr ⟨o, ho, fun x hx => h1 x (h x hx)⟩
theorem may_nil {n : Int} {f : List (List Int)} (h : FamOk n f) : mayB f [] = true := by
  cases hf : f with
  | nil => exact absurd hf h.ne
  | cons o os => exact mayB_iff.mpr ⟨o, List.mem_cons_self, fun x hx => nomatch hx⟩
theorem sub_fold_mem (ts : List Int) : ∀ (acc : List (List Int)) (p q : List Int), p ∈ acc → q.Sublist ts → p ++ q ∈ ts.foldl (fun acc t => acc ++ acc.map (· ++ [t])) acc := by
  induction ts with
  | nil =>
    intro acc p q hp hq
    rw [List.sublist_nil.mp hq, List.append_nil]
    exact hp
  | cons t ts ih =>
    intro acc p q hp hq
    rw [List.foldl_cons]
    cases hq with
    | cons _ h => exact ih _ p q (List.mem_append_left _ hp) h
    | cons_cons _ h =>
      rename_i q'
      have := ih (acc ++ acc.map (· ++ [t])) (p ++ [t]) q' (List.mem_append_right _ (List.mem_map.mpr ⟨p, hp, rfl⟩)) h
      rw [List.append_assoc] at this
      exact this
theorem iota_mem {n : Nat} {x : Int} : x ∈ iotaI n ↔ 0 ≤ x ∧ x < n := by
  unfold iotaI
  rw [List.mem_map]
  constructor
  · rintro ⟨k, hk, rfl⟩
    have := List.mem_range.mp hk
    omega
  · rintro ⟨h1, h2⟩
    exact ⟨x.toNat, List.mem_range.mpr (by omega), by omega⟩
theorem setIn_sub {n : Int} {o : List Int} (h : SetIn n o) : o.Sublist (iotaI n.toNat) := by
  have e : o = (iotaI n.toNat).filter fun x => o.contains x := asc_eq h.asc ((iota_in (n := n)).asc.sublist List.filter_sublist) fun x => by
    rw [List.mem_filter, iota_mem, List.contains_iff_mem]
    exact ⟨fun hx => ⟨by have := h.low x hx; omega, hx⟩, fun hx => hx.2⟩
  rw [e]
  exact List.filter_sublist
theorem mem_subsets {n : Int} {o : List Int} : o ∈ subsets n ↔ SetIn n o := ⟨subsets_in, fun h => (isort_perm _).mem_iff.mpr (by
  have := sub_fold_mem (iotaI n.toNat) [[]] [] o (by simp) (setIn_sub h)
  rw [List.nil_append] at this
  exact this)⟩
theorem mem_allSets {n : Int} {f : List (List Int)} {o : List Int} : o ∈ allSets n f ↔ SetIn n o ∧ mayB f o = true := by
  unfold allSets
  rw [List.mem_filter, mem_subsets]
theorem contains_iff {l : List Int} {x : Int} : l.contains x = decide (x ∈ l) := by
  by_cases h : x ∈ l
  · rw [List.contains_iff_mem.mpr h, decide_eq_true h]
  · rw [decide_eq_false h]
    simpa using h
theorem subsets_asc (n : Int) : (subsets n).Pairwise (fun a b => HT.lexLt b a = false) := isort_le stoL _
theorem subs_nodup (ts : List Int) : ∀ acc : List (List Int), ts.Nodup → acc.Nodup → (∀ o ∈ acc, ∀ t ∈ ts, t ∉ o) → (ts.foldl (fun acc t => acc ++ acc.map (· ++ [t])) acc).Nodup := by
  induction ts with
  | nil => intro acc _ h _; exact h
  | cons t ts ih =>
    intro acc hts ha hd
    obtain ⟨n1, n2⟩ := List.nodup_cons.mp hts
    rw [List.foldl_cons]
    refine ih _ n2 (List.nodup_append.mpr ⟨ha, ?_, fun a h1 b h2 e => ?_⟩) fun o ho u hu => ?_
    · exact List.pairwise_map.mpr (ha.imp fun {a b} h e => h (List.append_cancel_right e))
    · obtain ⟨q, _, rfl⟩ := List.mem_map.mp h2
      exact hd a h1 t List.mem_cons_self (by rw [e]; simp)
    · rcases List.mem_append.mp ho with ho | ho
      · exact hd o ho u (List.mem_cons_of_mem _ hu)
      · obtain ⟨q, hq, rfl⟩ := List.mem_map.mp ho
        intro z
        rcases List.mem_append.mp z with z | z
        · exact hd q hq u (List.mem_cons_of_mem _ hu) z
        · rw [List.mem_singleton.mp z] at hu
          exact n1 hu
theorem subsets_strict (n : Int) : (subsets n).Pairwise (fun a b => HT.lexLt a b = true) := by
  have h1 := subsets_asc n
  have h2 : (subsets n).Nodup := (isort_perm _).nodup_iff.mpr (subs_nodup _ _ (asc_nodup (iota_in (n := n)).asc) (by simp) fun o ho t _ => by rw [List.mem_singleton.mp ho]; simp)
  refine (List.Pairwise.and h1 h2).imp fun {a b} ⟨h3, h4⟩ => ?_
  cases h : HT.lexLt a b with
  | true => rfl
  | false => exact absurd (stoL.tot _ _ h h3) h4
section
variable {n : Int} {f : List (List Int)}
theorem lnodup_len {α : Type} [DecidableEq α] : ∀ {a b : List α}, a.Nodup → (∀ x ∈ a, x ∈ b) → a.length ≤ b.length
  | [], b, _, _ => Nat.zero_le _
  | x :: a, b, hn, h => by
    obtain ⟨h1, h2⟩ := List.nodup_cons.mp hn
    have hx := h x List.mem_cons_self
    have := lnodup_len (b := b.erase x) h2 fun y hy => (List.mem_erase_of_ne (fun e : y = x => h1 (e ▸ hy))).mpr (h y (List.mem_cons_of_mem _ hy))
    rw [List.length_erase_of_mem hx] at this
    have : 0 < b.length := List.length_pos_of_mem hx
    rw [List.length_cons]
    omega
theorem lex_nodup {f : List (List Int)} (h : f.Pairwise fun a b => HT.lexLt a b = true) : f.Nodup := h.imp fun {a b} h e => by
  rw [e, stoL.irr] at h
  cases h
theorem lex_strict {l : List (List Int)} (h : l.Nodup) : (isort HT.lexLt l).Pairwise fun a b => HT.lexLt a b = true := by
  refine (List.Pairwise.and (isort_le stoL l) ((isort_perm l).nodup_iff.mpr h)).imp fun {a b} ⟨h3, h4⟩ => ?_
  cases h : HT.lexLt a b with
  | true => rfl
  | false => exact absurd (stoL.tot _ _ h h3) h4
theorem allSets_nodup (n : Int) (f : List (List Int)) : (allSets n f).Nodup := lex_nodup ((subsets_strict n).sublist List.filter_sublist)
/-- two sets of which the lesser can take nothing -/
def stuckB (f : List (List Int)) (o p : List Int) : Bool := decide (o.length < p.length) && !((p.filter fun t => !o.contains t).any fun t => mayB f (addT o t))
def evenB (n : Int) (f : List (List Int)) : Bool := (allSets n f).all fun o => (allSets n f).all fun p => !stuckB f o p
def Even (n : Int) (f : List (List Int)) : Prop := ∀ o p, SetIn n o → mayB f o = true → SetIn n p → mayB f p = true → o.length < p.length → ∃ t ∈ p, t ∉ o ∧ mayB f (addT o t) = true
theorem stuck_not {o p : List Int} : stuckB f o p = false ↔ (o.length < p.length → ∃ t ∈ p, t ∉ o ∧ mayB f (addT o t) = true) := by
  unfold stuckB
  by_cases h : o.length < p.length
  · rw [decide_eq_true h, Bool.true_and, Bool.not_eq_false', List.any_eq_true]
    constructor
    · rintro ⟨t, ht, hm⟩ _
      obtain ⟨h1, h2⟩ := List.mem_filter.mp ht
      exact ⟨t, h1, by simpa using h2, hm⟩
    · intro q
      obtain ⟨t, h1, h2, h3⟩ := q h
      exact ⟨t, List.mem_filter.mpr ⟨h1, by simpa using h2⟩, h3⟩
  · rw [decide_eq_false h, Bool.false_and]
    exact ⟨fun _ z => absurd z h, fun _ => rfl⟩
theorem even_iff : evenB n f = true ↔ Even n f := by
  unfold evenB Even
  rw [List.all_eq_true]
  constructor
  · intro h o p ho mo hp mp
    have h1 := List.all_eq_true.mp (h o (mem_allSets.mpr ⟨ho, mo⟩)) p (mem_allSets.mpr ⟨hp, mp⟩)
    exact stuck_not.mp (by simpa using h1)
  · intro h o ho
    refine List.all_eq_true.mpr fun p hp => ?_
    obtain ⟨h1, h2⟩ := mem_allSets.mp ho
    obtain ⟨h3, h4⟩ := mem_allSets.mp hp
    have := stuck_not.mpr (h o p h1 h2 h3 h4)
    rw [this]
    rfl
end

end G9
namespace G9
open PySem PySem.Spec PyProof.Rows L2 G9S
open L2H HotX
/-! ### texts of families -/
def digS (t : Int) : Str := toString t
theorem dig_len {t : Int} (h0 : 0 ≤ t) (h5 : t ≤ 5) : (digS t).length = 1 := by
  have : ∀ k : Nat, k ≤ 5 → (digS (k : Int)).length = 1 := by
    intro k hk
    rcases (by omega : k = 0 ∨ k = 1 ∨ k = 2 ∨ k = 3 ∨ k = 4 ∨ k = 5) with rfl | rfl | rfl | rfl | rfl | rfl <;> decide +kernel
  have h := this t.toNat (by omega)
  rwa [show ((t.toNat : Nat) : Int) = t by omega] at h
def wordS (o : List Int) : Str := Txt.join "" (o.map digS)
def restS (f : List (List Int)) : Str := Txt.join "" (f.map fun o => (" " : Str) ++ wordS o)
def writtenS (n : Int) (f : List (List Int)) : Str := digS n ++ (":" : Str) ++ restS f
theorem sum_le_mul {l : List Nat} {b : Nat} (h : ∀ x ∈ l, x ≤ b) : l.sum ≤ l.length * b := by
  induction l with
  | nil => simp
  | cons x l ih =>
    have h1 := h x List.mem_cons_self
    have h2 := ih fun y hy => h y (List.mem_cons_of_mem _ hy)
    rw [List.sum_cons, List.length_cons, Nat.succ_mul]
    omega
section
variable {P : Program} {w : World} {K : PySem.W.Frag} {mg : Str → Option Value} {base : Heap} {c : Nat → Addr}
theorem joinL_nil : ∀ ps : List (List Nat), TL.joinL [] ps = ps.flatten
  | [] => rfl
  | [p] => by simp [TL.joinL]
  | p :: q :: r => by
    show p ++ ([] ++ TL.joinL [] (q :: r)) = _
    rw [joinL_nil (q :: r), List.nil_append]
    rfl
theorem len_tl (x : Str) : x.length = (TL.tl x).length := (Array.length_toList (xs := x.cps)).symm
theorem join0_tl (ps : List Str) : TL.tl (Txt.join "" ps) = (ps.map TL.tl).flatten := by
  have h := TL.tl_join "" ps
  have e : TL.tl ("" : Str) = [] := rfl
  rw [e, joinL_nil] at h
  have ej : Txt.join "" ps = Str.join "" ps := eq_of_beq (join_closes (sep := "") (sep' := "") (ys := ps) rfl)
  rw [ej]
  exact h
theorem join0_len (ps : List Str) : (Txt.join "" ps).length = (ps.map (·.length)).sum := by
  rw [len_tl, join0_tl, List.length_flatten, List.map_map]
  congr 1
theorem word_len {n : Int} {o : List Int} (h : SetIn n o) (h5 : n ≤ 5) : (wordS o).length ≤ 5 := by
  unfold wordS
  rw [join0_len, List.map_map]
  have := sum_le_mul (l := o.map ((fun x : Str => x.length) ∘ digS)) (b := 1) fun x hx => by
    obtain ⟨t, ht, rfl⟩ := List.mem_map.mp hx
    have := h.low t ht
    show (digS t).length ≤ 1
    rw [dig_len this.1 (by omega)]
    exact Nat.le_refl _
  rw [List.length_map] at this
  have := h.len h5
  omega
def R_written (ds : List D) (d : D) : Prop := ∃ (n : Int) (f : List (List Int)), FamOk n f ∧ ds = [dFam n f] ∧ d = .str (writtenS n f)
theorem sc_written : FnScope ["family", "one", "thing"] ["family"] (defScope s_written) := ⟨rfl, rfl, rfl, by decide +kernel, rfl, by decide +kernel, by decide +kernel⟩
theorem ok_written {f : Addr} {fd : FuncData} (F : Fun K "written" "written" s_written f fd) (B : Blt mg) : FnOk P w K mg base CX0 1 f fd ["family"] (spR K R_written) := by
  refine okD F sc_written (fun ds d h => by obtain ⟨_, _, _, rfl, _⟩ := h; rfl) fun cdv A outer s H G E σ ds d Q hr hR sh en q => ?_
  obtain ⟨n, fs, fok, rfl, rfl⟩ := hR
  have hN := sc_written.nd
  have n2 := fok.n2
  have n5 := fok.n5
  have few := fok.few
  have dg : ∀ t : Int, 0 ≤ t → t ≤ 5 → t.natAbs.log2 < 1920 := fun t h0 h5 => by
    have : ∀ k : Nat, k ≤ 5 → k.log2 < 1920 := by decide +kernel
    exact this _ (by omega)
  have wl : ∀ o ∈ fs, (wordS o).length ≤ 5 := fun o ho => word_len (fok.sets o ho) n5
  have rl : (restS fs).length ≤ 1000 := by
    unfold restS
    rw [join0_len, List.map_map]
    have := sum_le_mul (l := fs.map ((fun x : Str => x.length) ∘ fun o => (" " : Str) ++ wordS o)) (b := 6) fun x hx => by
      obtain ⟨o, ho, rfl⟩ := List.mem_map.mp hx
      show ((" " : Str) ++ wordS o).length ≤ 6
      rw [len_tl, TL.tl_append, List.length_append, ← len_tl, ← len_tl]
      have := wl o ho
      have e : (" " : Str).length = 1 := by decide +kernel
      omega
    rw [List.length_map] at this
    omega
  refine s_ret (d := .str (writtenS n fs)) (e_op op_add_str (e_op op_add_str (e_strI B (e_at (e_v 0) rfl) (dg n (by omega) n5)) e_str (rd_catS ?_)) (e_joinS e_str ((l_lc 1 (c_map dS fs (fun o => .str ((" " : Str) ++ wordS o)) 1 (i_tup (e_at (d := .tup (fs.map dS)) (e_v 0) rfl)) (by omega) fun o ho _ _ _ _ _ => e_op op_add_str e_str (e_joinS e_str ((l_lc 2 (c_map D.int o (fun t => .str (digS t)) 2 (i_tup (e_v 1)) (by have := (fok.sets o ho).len n5; omega) fun t ht _ _ _ _ _ => e_strI B (e_v 2) (dg t ((fok.sets o ho).low t ht).1 (by have := (fok.sets o ho).low t ht; omega)))).ev.is (d' := .lst ((o.map digS).map D.str)) (by rw [List.map_map]; rfl)) ?_) (rd_catS ?_))).ev.is (d' := .lst ((fs.map fun o => (" " : Str) ++ wordS o).map D.str)) (by rw [List.map_map]; rfl)) ?_) (rd_catS ?_)) same_nil sh en q
  · have h1 := dig_len (t := n) (by omega) n5
    have e : (":" : Str).length = 1 := by decide +kernel
    show (digS n).length + _ ≤ sizeLine
    rw [h1, e]
    decide
  · have h1 := wl o ho
    unfold wordS at h1
    rw [join0_len] at h1
    have e : ("" : Str).length = 0 := by decide +kernel
    rw [e, Nat.mul_zero]
    omega
  · have h1 := wl o ho
    have e : (" " : Str).length = 1 := by decide +kernel
    show (" " : Str).length + (wordS o).length ≤ sizeLine
    rw [e]
    exact Nat.le_trans (Nat.add_le_add_left h1 1) (by decide)
  · have h1 := rl
    unfold restS at h1
    rw [join0_len] at h1
    have e : ("" : Str).length = 0 := by decide +kernel
    rw [e, Nat.mul_zero]
    omega
  · have h1 := dig_len (t := n) (by omega) n5
    have e : (":" : Str).length = 1 := by decide +kernel
    show (digS n ++ (":" : Str)).length + (restS fs).length ≤ sizeLine
    rw [len_tl, TL.tl_append, List.length_append, ← len_tl, ← len_tl, h1, e]
    exact Nat.le_trans (Nat.add_le_add_left rl 2) (by decide)
/-! format_family -/
end

end G9
namespace G9
open PySem PySem.Spec PyProof.Rows L2 G9S
/-! ### what parse_family makes of a text (plain) -/
def inS (i j : Str) : Bool := !(Builtin.Str.occurrences j i 0 j.length 1).isEmpty
def digOf (c : Str) : Int := (PySem.intText? c).getD 0
def parseP (s : Str) : Option (Int × List (List Int)) :=
  if 200 < s.length ∨ ((signs s).all fun c => inS c "01234: 5") = false then none else
  match Txt.split s " " with
  | [] => none
  | w0 :: ws =>
    if w0.length ≠ 2 then none else
    match signs w0 with
    | [a, b] =>
      if inS a "2345" = false ∨ b ≠ (":" : Str) then none else
      if (ws.any fun x => inS "5" x || inS ":" x) = true then none else
      let f := ws.map fun x => (signs x).map digOf
      if isFamD (dFam (digOf a) f) = true ∧ writtenS (digOf a) f = s then some (digOf a, f) else none
    | _ => none
theorem parse_some {s : Str} {n : Int} {f : List (List Int)} (h : parseP s = some (n, f)) : isFamD (dFam n f) = true ∧ writtenS n f = s := by
  unfold parseP at h
  split at h
  · cases h
  · split at h
    · cases h
    · split at h
      · cases h
      · split at h
        · split at h
          · cases h
          · split at h
            · cases h
            · simp only at h
              split at h
              · rename_i hc
                cases h
                exact hc
              · cases h
        · cases h
theorem parse_bad : ∀ s ∈ (["", "2", "2:", "2: ", "2: 0", "2: 1 0", "2: 0 01", "2: 10", "2: 02", "2:0 1", "2: 0  1", "6: 012345", "2: 0 1 ", "02: 0 1", "3: 0 12 5", "2: 0 1:"] : List Str), parseP s = none := by decide +kernel

end G9
namespace G9
open PySem PySem.Spec PyProof.Rows L2 G9S
theorem joinL_cons (S p : List Nat) : ∀ ps : List (List Nat), TL.joinL S (p :: ps) = p ++ (ps.map fun q => S ++ q).flatten
  | [] => by simp [TL.joinL]
  | q :: r => by
    show p ++ (S ++ TL.joinL S (q :: r)) = _
    rw [joinL_cons S q r, List.map_cons, List.flatten_cons, List.append_assoc]
theorem written_join (n : Int) (f : List (List Int)) : writtenS n f = Txt.join " " ((digS n ++ (":" : Str)) :: f.map wordS) := by
  refine TL.ext_tl ?_
  have e : TL.tl (" " : Str) = [32] := by decide +kernel
  rw [TL.join_eq, TL.tl_join, e, List.map_cons, joinL_cons]
  unfold writtenS restS
  rw [TL.tl_append, join0_tl, List.map_map, List.map_map, List.map_map]
  congr 2
  refine List.map_congr_left fun o _ => ?_
  show TL.tl ((" " : Str) ++ wordS o) = [32] ++ TL.tl (wordS o)
  rw [TL.tl_append, e]
theorem dig_tl {t : Int} (h0 : 0 ≤ t) (h5 : t ≤ 5) : TL.tl (digS t) = [(48 + t.toNat)] ∧ digOf (digS t) = t ∧ inS (digS t) "01234: 5" = true ∧ signs (digS t) = [digS t] := by
  have : ∀ k : Nat, k ≤ 5 → TL.tl (digS (k : Int)) = [48 + k] ∧ digOf (digS (k : Int)) = (k : Int) ∧ inS (digS (k : Int)) "01234: 5" = true ∧ signs (digS (k : Int)) = [digS (k : Int)] := by
    intro k hk
    rcases (by omega : k = 0 ∨ k = 1 ∨ k = 2 ∨ k = 3 ∨ k = 4 ∨ k = 5) with rfl | rfl | rfl | rfl | rfl | rfl <;> decide +kernel
  have h := this t.toNat (by omega)
  rwa [show ((t.toNat : Nat) : Int) = t by omega] at h
theorem signs_app (a b : Str) : signs (a ++ b) = signs a ++ signs b := by
  unfold signs
  rw [← List.map_append]
  exact congrArg _ (TL.tl_append a b)
theorem word_signs {o : List Int} (h : ∀ t ∈ o, 0 ≤ t ∧ t ≤ 5) : signs (wordS o) = o.map digS := by
  have e : (TL.tl (wordS o)).map (fun c => (⟨#[c]⟩ : Str)) = o.map digS := by
    unfold wordS
    rw [join0_tl]
    induction o with
    | nil => rfl
    | cons t o ih =>
      have h1 := (dig_tl (h t List.mem_cons_self).1 (h t List.mem_cons_self).2).2.2.2
      rw [List.map_cons, List.map_cons, List.flatten_cons, List.map_append, ih fun u hu => h u (List.mem_cons_of_mem _ hu)]
      have h2 : (TL.tl (digS t)).map (fun c => (⟨#[c]⟩ : Str)) = [digS t] := h1
      rw [h2]
      rfl
  exact e
theorem word_dig {o : List Int} (h : ∀ t ∈ o, 0 ≤ t ∧ t ≤ 5) : (signs (wordS o)).map digOf = o := by
  rw [word_signs h, List.map_map]
  have : o.map (digOf ∘ digS) = o.map id := List.map_congr_left fun t ht => (dig_tl (h t ht).1 (h t ht).2).2.1
  rw [this, List.map_id]

theorem sp_not_word {o : List Int} (h : ∀ t ∈ o, 0 ≤ t ∧ t ≤ 5) : ∀ c ∈ TL.tl (wordS o), 48 ≤ c ∧ c ≤ 53 := by
  intro c hc
  unfold wordS at hc
  rw [join0_tl] at hc
  obtain ⟨l, hl, hcl⟩ := List.mem_flatten.mp hc
  obtain ⟨d, hd, rfl⟩ := List.mem_map.mp hl
  obtain ⟨t, ht, rfl⟩ := List.mem_map.mp hd
  have := h t ht
  rw [(dig_tl this.1 this.2).1] at hcl
  have := List.mem_singleton.mp hcl
  omega
theorem split_written {n : Int} {f : List (List Int)} (fok : FamOk n f) : Txt.split (writtenS n f) " " = (digS n ++ (":" : Str)) :: f.map wordS := by
  rw [written_join]
  have n2 := fok.n2
  have n5 := fok.n5
  refine TL.split_join (s := 32) (S := []) (by decide +kernel) (by decide +kernel) (fun z => nomatch z) fun p hp => ?_
  rcases List.mem_cons.mp hp with rfl | hp
  · rw [TL.tl_append, (dig_tl (t := n) (by omega) n5).1]
    have e : TL.tl (":" : Str) = [58] := by decide +kernel
    rw [e]
    simp
    omega
  · obtain ⟨o, ho, rfl⟩ := List.mem_map.mp hp
    intro z
    have := sp_not_word (fun t ht => by have := (fok.sets o ho).low t ht; omega) 32 z
    omega

end G9
namespace G9
open PySem PySem.Spec PyProof.Rows L2 G9S
theorem inS_not {c : Nat} {x : Str} (h : c ∉ TL.tl x) : inS ⟨#[c]⟩ x = false := by
  cases e : inS ⟨#[c]⟩ x with
  | false => rfl
  | true =>
    obtain ⟨i, h1, h2⟩ := (PySem.StrLaws.found_iff x ⟨#[c]⟩).mp e
    exfalso
    have hl : i < x.cps.size := by
      have : (⟨#[c]⟩ : Str).length = 1 := rfl
      rw [this] at h1
      exact h1
    unfold Builtin.Str.subAt at h2
    have h3 : x.cps.extract i (i + 1) = #[c] := eq_of_beq h2
    have h4 : c ∈ x.cps.extract i (i + 1) := by rw [h3]; simp
    have h5 : c ∈ (x.cps.extract i (i + 1)).toList := Array.mem_toList_iff.mpr h4
    rw [Array.toList_extract] at h5
    exact h (List.mem_of_mem_drop (List.mem_of_mem_take h5))

end G9
namespace G9
open PySem PySem.Spec PyProof.Rows L2 G9S
theorem fam_ok {n : Int} {f : List (List Int)} (h : isFamD (dFam n f) = true) : FamOk n f := by
  have h0 : ((decide (2 ≤ n) && decide (n ≤ 5)) && (!(f.map dS).isEmpty && (f.map dS).all fun x => isSetD x n) && isFam n (setsD (f.map dS))) = true := h
  rw [setsD_map] at h0
  simp only [Bool.and_eq_true, isFam, decide_eq_true_eq, Bool.not_eq_true', List.all_eq_true] at h0
  obtain ⟨⟨⟨h2, h5⟩, hne, hs⟩, ⟨h6, h7⟩, h8⟩ := h0
  have sets : ∀ o ∈ f, SetIn n o := fun o ho => by
    obtain ⟨s, e, h1, h3⟩ := set_of (hs (dS o) (List.mem_map.mpr ⟨o, ho, rfl⟩))
    have e2 : o = s := by
      have : intsD (o.map D.int) = intsD (s.map D.int) := by
        have e' : D.tup (o.map D.int) = D.tup (s.map D.int) := e
        injection e' with e'
        rw [e']
      rwa [intsD_map, intsD_map] at this
    subst e2
    refine ⟨?_, fun x hx => by have := h3 x hx; omega⟩
    rw [h1]
    exact (usort_lt stoI o).imp fun {a b} h => of_decide_eq_true h
  have asc : f.Pairwise fun a b => HT.lexLt a b = true := by
    rw [h6]
    exact usort_lt stoL f
  refine ⟨h2, h5, fun z => ?_, ?_, sets, asc, fun o ho p hp hsub => ?_, fun t t0 tn => ?_⟩
  · subst z
    cases hne
  · refine Nat.le_trans (lnodup_len (lex_nodup asc) (b := subsets n) fun o ho => mem_subsets.mpr (sets o ho)) (subsets_len ⟨by omega, h5⟩)
  · have : o ∈ greatestIn f := by rw [h7]; exact ho
    exact topB_iff.mp (great_mem.mp this).2 p hp hsub
  · have := h8 t.toNat (List.mem_range.mpr (by omega))
    rw [List.any_eq_true] at this
    obtain ⟨o, ho, hc⟩ := this
    refine ⟨o, ho, ?_⟩
    have := List.contains_iff_mem.mp hc
    rwa [show ((t.toNat : Nat) : Int) = t by omega] at this
theorem word_chars {n : Int} {o : List Int} (h : SetIn n o) (h5 : n ≤ 5) : ∀ c ∈ TL.tl (wordS o), 48 ≤ c ∧ c ≤ 52 := by
  intro c hc
  unfold wordS at hc
  rw [join0_tl] at hc
  obtain ⟨l, hl, hcl⟩ := List.mem_flatten.mp hc
  obtain ⟨d, hd, rfl⟩ := List.mem_map.mp hl
  obtain ⟨t, ht, rfl⟩ := List.mem_map.mp hd
  have := h.low t ht
  rw [(dig_tl this.1 (by omega)).1] at hcl
  have := List.mem_singleton.mp hcl
  omega
theorem tl_colon : TL.tl (":" : Str) = [58] := by decide +kernel
theorem tl_space : TL.tl (" " : Str) = [32] := by decide +kernel
theorem rest_chars {n : Int} {f : List (List Int)} (fok : FamOk n f) : ∀ c ∈ TL.tl (restS f), c = 32 ∨ 48 ≤ c ∧ c ≤ 52 := by
  intro c hc
  unfold restS at hc
  rw [join0_tl] at hc
  obtain ⟨l, hl, hcl⟩ := List.mem_flatten.mp hc
  obtain ⟨d, hd, rfl⟩ := List.mem_map.mp hl
  obtain ⟨o, ho, rfl⟩ := List.mem_map.mp hd
  rw [TL.tl_append, tl_space] at hcl
  rcases List.mem_append.mp hcl with h | h
  · exact .inl (List.mem_singleton.mp h)
  · exact .inr (word_chars (fok.sets o ho) fok.n5 c h)
theorem chars_in : ∀ c ∈ ([48, 49, 50, 51, 52, 53, 58, 32] : List Nat), inS ⟨#[c]⟩ "01234: 5" = true := by decide +kernel
theorem all_in {s : Str} (h : ∀ c ∈ TL.tl s, c ∈ ([48, 49, 50, 51, 52, 53, 58, 32] : List Nat)) : ((signs s).all fun c => inS c "01234: 5") = true := by
  rw [List.all_eq_true]
  intro x hx
  unfold signs at hx
  obtain ⟨c, hc, rfl⟩ := List.mem_map.mp hx
  exact chars_in c (h c hc)
theorem rest_len {n : Int} {f : List (List Int)} (fok : FamOk n f) : (restS f).length ≤ 6 * f.length := by
  unfold restS
  rw [join0_len, List.map_map]
  have := sum_le_mul (l := f.map ((fun x : Str => x.length) ∘ fun o => (" " : Str) ++ wordS o)) (b := 6) fun x hx => by
    obtain ⟨o, ho, rfl⟩ := List.mem_map.mp hx
    show ((" " : Str) ++ wordS o).length ≤ 6
    rw [len_tl, TL.tl_append, List.length_append, ← len_tl, ← len_tl]
    have := word_len (fok.sets o ho) fok.n5
    have e : (" " : Str).length = 1 := by decide +kernel
    omega
  rw [List.length_map] at this
  omega
theorem head_len {n : Int} (h2 : 2 ≤ n) (h5 : n ≤ 5) : (digS n ++ (":" : Str)).length = 2 := by
  rw [len_tl, TL.tl_append, (dig_tl (t := n) (by omega) h5).1, tl_colon]
  rfl
theorem written_len {n : Int} {f : List (List Int)} (fok : FamOk n f) : (writtenS n f).length ≤ 194 := by
  unfold writtenS
  rw [len_tl, TL.tl_append, List.length_append, ← len_tl, ← len_tl, head_len fok.n2 fok.n5]
  have := rest_len fok
  have := fok.few
  omega
theorem dig_in {n : Int} (h2 : 2 ≤ n) (h5 : n ≤ 5) : inS (digS n) "2345" = true := by
  have : ∀ k : Nat, 2 ≤ k → k ≤ 5 → inS (digS (k : Int)) "2345" = true := by
    intro k h2 h5
    rcases (by omega : k = 2 ∨ k = 3 ∨ k = 4 ∨ k = 5) with rfl | rfl | rfl | rfl <;> decide +kernel
  have h := this n.toNat (by omega) (by omega)
  rwa [show ((n.toNat : Nat) : Int) = n by omega] at h
theorem mem8 {c : Nat} (h : c = 32 ∨ c = 58 ∨ 48 ≤ c ∧ c ≤ 53) : c ∈ ([48, 49, 50, 51, 52, 53, 58, 32] : List Nat) := by
  rcases (by omega : c = 48 ∨ c = 49 ∨ c = 50 ∨ c = 51 ∨ c = 52 ∨ c = 53 ∨ c = 58 ∨ c = 32) with rfl | rfl | rfl | rfl | rfl | rfl | rfl | rfl <;> decide
theorem written_chars {n : Int} {f : List (List Int)} (fok : FamOk n f) : ∀ c ∈ TL.tl (writtenS n f), c = 32 ∨ c = 58 ∨ 48 ≤ c ∧ c ≤ 53 := by
  intro c hc
  have n2 := fok.n2
  have n5 := fok.n5
  unfold writtenS at hc
  rw [TL.tl_append, TL.tl_append, (dig_tl (t := n) (by omega) n5).1, tl_colon] at hc
  rcases List.mem_append.mp hc with h | h
  · simp at h
    omega
  · have := rest_chars fok c h
    omega
theorem words_no {n : Int} {f : List (List Int)} (fok : FamOk n f) : ((f.map wordS).any fun x => inS "5" x || inS ":" x) = false := by
  rw [List.any_eq_false]
  intro x hx
  obtain ⟨o, ho, rfl⟩ := List.mem_map.mp hx
  have h := word_chars (fok.sets o ho) fok.n5
  have e1 : inS "5" (wordS o) = false := inS_not (c := 53) fun z => by have := h _ z; omega
  have e2 : inS ":" (wordS o) = false := inS_not (c := 58) fun z => by have := h _ z; omega
  rw [e1, e2]
  decide
theorem words_dig {n : Int} {f : List (List Int)} (fok : FamOk n f) : ((f.map wordS).map fun x => (signs x).map digOf) = f := by
  rw [List.map_map]
  conv => rhs; rw [← List.map_id f]
  refine List.map_congr_left fun o ho => ?_
  exact word_dig fun t ht => by have := (fok.sets o ho).low t ht; have := fok.n5; omega
theorem head_signs {n : Int} (h2 : 2 ≤ n) (h5 : n ≤ 5) : signs (digS n ++ (":" : Str)) = [digS n, ":"] := by
  rw [signs_app, (dig_tl (t := n) (by omega) h5).2.2.2, show signs (":" : Str) = [(":" : Str)] by decide +kernel]
  rfl
theorem parse_written {n : Int} {f : List (List Int)} (fok : FamOk n f) : parseP (writtenS n f) = some (n, f) := by
  unfold parseP
  have n2 := fok.n2
  have n5 := fok.n5
  rw [if_neg (by rw [all_in fun c hc => mem8 (written_chars fok c hc)]; have := written_len fok; simp; omega), split_written fok]
  simp only
  rw [if_neg (by rw [head_len n2 n5]; decide), head_signs n2 n5]
  simp only
  rw [if_neg (by rw [dig_in n2 n5]; simp), words_no fok]
  rw [words_dig fok, (dig_tl (t := n) (by omega) n5).2.1]
  rw [if_neg (by decide), if_pos ⟨fok.is, rfl⟩]
def okB (s : Str) : Bool := decide (200 < s.length) || (match Txt.split s " " with
  | [] => true
  | _ :: ws => decide (ws.length < 64) && ws.all fun x => decide (x.length < 64))
theorem ok_consts : ∀ s ∈ (["", "2", "2:", "2: ", "2: 0", "2: 1 0", "2: 0 01", "2: 10", "2: 02", "2:0 1", "2: 0  1", "6: 012345", "2: 0 1 ", "02: 0 1", "3: 0 12 5", "2: 0 1:"] : List Str), okB s = true := by decide +kernel
theorem split_parts {ps : List Str} (hne : ps ≠ []) (h : ∀ p ∈ ps, 32 ∉ TL.tl p) : Txt.split (Txt.join " " ps) " " = ps :=
  TL.split_join (s := 32) (S := []) (by decide +kernel) (by decide +kernel) hne h
theorem head_nosp {n : Int} (h2 : 2 ≤ n) (h5 : n ≤ 5) : 32 ∉ TL.tl (digS n ++ (":" : Str)) := by
  rw [TL.tl_append, (dig_tl (t := n) (by omega) h5).1, tl_colon]
  simp
  omega
theorem word_nosp {n : Int} {o : List Int} (h : SetIn n o) (h5 : n ≤ 5) : 32 ∉ TL.tl (wordS o) := fun z => by
  have := word_chars h h5 32 z
  omega
theorem okB_of {s : Str} {x : Str} {ws : List Str} (h : Txt.split s " " = x :: ws) (h1 : ws.length < 64) (h2 : ∀ y ∈ ws, y.length < 64) : okB s = true := by
  unfold okB
  rw [h]
  simp only [Bool.or_eq_true, Bool.and_eq_true, decide_eq_true_eq, List.all_eq_true]
  exact .inr ⟨h1, fun y hy => h2 y hy⟩
theorem ok_written' {n : Int} {f : List (List Int)} (fok : FamOk n f) : okB (writtenS n f) = true := by
  refine okB_of (split_written fok) (by rw [List.length_map]; have := fok.few; omega) fun y hy => ?_
  obtain ⟨o, ho, rfl⟩ := List.mem_map.mp hy
  have := word_len (fok.sets o ho) fok.n5
  omega
/-! text + " " -/
theorem wr_sp {n : Int} (f : List (List Int)) : writtenS n f ++ (" " : Str) = Txt.join " " ((digS n ++ (":" : Str)) :: (f.map wordS ++ [("" : Str)])) := by
  refine TL.ext_tl ?_
  rw [TL.tl_append, written_join, TL.join_eq, TL.join_eq, TL.tl_join, TL.tl_join, tl_space, List.map_cons, List.map_cons, joinL_cons, joinL_cons, List.map_append, List.map_append, List.flatten_append, List.append_assoc]
  rfl
theorem sp_words {n : Int} {f : List (List Int)} (fok : FamOk n f) : Txt.split (writtenS n f ++ (" " : Str)) " " = (digS n ++ (":" : Str)) :: (f.map wordS ++ [("" : Str)]) := by
  rw [wr_sp]
  refine split_parts (fun z => nomatch z) fun p hp => ?_
  rcases List.mem_cons.mp hp with rfl | hp
  · exact head_nosp fok.n2 fok.n5
  · rcases List.mem_append.mp hp with hp | hp
    · obtain ⟨o, ho, rfl⟩ := List.mem_map.mp hp
      exact word_nosp (fok.sets o ho) fok.n5
    · rw [List.mem_singleton.mp hp]
      decide +kernel
theorem parse_sp {n : Int} {f : List (List Int)} (fok : FamOk n f) : parseP (writtenS n f ++ (" " : Str)) = none ∧ okB (writtenS n f ++ (" " : Str)) = true := by
  have n2 := fok.n2
  have n5 := fok.n5
  constructor
  · cases e : parseP (writtenS n f ++ (" " : Str)) with
    | none => rfl
    | some p =>
      obtain ⟨m, g⟩ := p
      obtain ⟨h1, h2⟩ := parse_some e
      have gok := fam_ok h1
      have h3 := split_written gok
      rw [h2, sp_words fok] at h3
      injection h3 with h3 h4
      have hl := congrArg List.getLast? h4
      rw [List.getLast?_append] at hl
      simp only [List.getLast?_singleton, Option.some_or] at hl
      have hm : ("" : Str) ∈ g.map wordS := List.mem_of_getLast? hl.symm
      obtain ⟨o, ho, e2⟩ := List.mem_map.mp hm
      have e3 : o = [] := by
        have := word_dig (o := o) fun t ht => by have := (gok.sets o ho).low t ht; have := gok.n5; omega
        rw [e2] at this
        rw [← this]
        decide +kernel
      subst e3
      obtain ⟨p, hp, hmem⟩ := gok.cover 0 (by decide) (by have := gok.n2; omega)
      have e4 := gok.anti [] ho p hp (subB_iff.mpr fun x hx => nomatch hx)
      rw [← e4] at hmem
      cases hmem
  · refine okB_of (sp_words fok) (by rw [List.length_append, List.length_map]; have := fok.few; show f.length + 1 < 64; omega) fun y hy => ?_
    rcases List.mem_append.mp hy with hy | hy
    · obtain ⟨o, ho, rfl⟩ := List.mem_map.mp hy
      have := word_len (fok.sets o ho) fok.n5
      omega
    · rw [List.mem_singleton.mp hy]
      decide +kernel
/-! " " + text -/
theorem parse_first {s x : Str} {ws : List Str} (h : Txt.split s " " = x :: ws) (hx : x.length ≠ 2) : parseP s = none := by
  unfold parseP
  split
  · rfl
  · rw [h]
    simp only
    rw [if_pos hx]
theorem psp_words {n : Int} {f : List (List Int)} (fok : FamOk n f) : Txt.split ((" " : Str) ++ writtenS n f) " " = ("" : Str) :: (digS n ++ (":" : Str)) :: f.map wordS := by
  have e : (" " : Str) ++ writtenS n f = Txt.join " " (("" : Str) :: (digS n ++ (":" : Str)) :: f.map wordS) := by
    refine TL.ext_tl ?_
    rw [TL.tl_append, written_join, TL.join_eq, TL.join_eq, TL.tl_join, TL.tl_join, tl_space, List.map_cons, List.map_cons, List.map_cons, joinL_cons, joinL_cons]
    rfl
  rw [e]
  refine split_parts (fun z => nomatch z) fun p hp => ?_
  rcases List.mem_cons.mp hp with rfl | hp
  · decide +kernel
  rcases List.mem_cons.mp hp with rfl | hp
  · exact head_nosp fok.n2 fok.n5
  · obtain ⟨o, ho, rfl⟩ := List.mem_map.mp hp
    exact word_nosp (fok.sets o ho) fok.n5
theorem parse_psp {n : Int} {f : List (List Int)} (fok : FamOk n f) : parseP ((" " : Str) ++ writtenS n f) = none ∧ okB ((" " : Str) ++ writtenS n f) = true := by
  refine ⟨parse_first (psp_words fok) (by decide +kernel), okB_of (psp_words fok) (by rw [List.length_cons, List.length_map]; have := fok.few; omega) fun y hy => ?_⟩
  rcases List.mem_cons.mp hy with rfl | hy
  · rw [head_len fok.n2 fok.n5]
    decide
  · obtain ⟨o, ho, rfl⟩ := List.mem_map.mp hy
    have := word_len (fok.sets o ho) fok.n5
    omega
/-! text.replace(":", "") -/
theorem no_colon {n : Int} {f : List (List Int)} (fok : FamOk n f) : Txt.replace (writtenS n f) ":" "" = Txt.join " " (digS n :: f.map wordS) := by
  have n2 := fok.n2
  have n5 := fok.n5
  have e0 : (":" : Str) = ⟨#[58]⟩ := rfl
  rw [e0, PySem.StrLaws.replace_one]
  have e1 : writtenS n f = Txt.join ":" [digS n, restS f] := by
    refine TL.ext_tl ?_
    rw [TL.join_eq, TL.tl_join, tl_colon, List.map_cons, joinL_cons]
    unfold writtenS
    rw [TL.tl_append, TL.tl_append, tl_colon]
    simp
  have e2 : Txt.split (writtenS n f) ":" = [digS n, restS f] := by
    rw [e1]
    refine TL.split_join (s := 58) (S := []) (by decide +kernel) (by decide +kernel) (fun z => nomatch z) fun p hp => ?_
    rcases List.mem_cons.mp hp with rfl | hp
    · rw [(dig_tl (t := n) (by omega) n5).1]
      simp
      omega
    · rw [List.mem_singleton.mp hp]
      intro z
      have := rest_chars fok 58 z
      omega
  rw [← e0, e2]
  refine TL.ext_tl ?_
  rw [TL.tl_join, TL.join_eq, TL.tl_join, tl_space]
  have e3 : TL.tl (restS f) = (((f.map wordS).map TL.tl).map (fun q => [32] ++ q)).flatten := by
    unfold restS
    rw [join0_tl, List.map_map, List.map_map, List.map_map]
    congr 1
    refine List.map_congr_left fun o _ => ?_
    show TL.tl ((" " : Str) ++ wordS o) = [32] ++ TL.tl (wordS o)
    rw [TL.tl_append, tl_space]
  show TL.joinL [] [TL.tl (digS n), TL.tl (restS f)] = TL.joinL [32] (TL.tl (digS n) :: (f.map wordS).map TL.tl)
  rw [joinL_cons, joinL_cons, ← e3]
  simp
theorem nc_words {n : Int} {f : List (List Int)} (fok : FamOk n f) : Txt.split (Txt.replace (writtenS n f) ":" "") " " = digS n :: f.map wordS := by
  have n2 := fok.n2
  have n5 := fok.n5
  rw [no_colon fok]
  refine split_parts (fun z => nomatch z) fun p hp => ?_
  rcases List.mem_cons.mp hp with rfl | hp
  · rw [(dig_tl (t := n) (by omega) n5).1]
    simp
    omega
  · obtain ⟨o, ho, rfl⟩ := List.mem_map.mp hp
    exact word_nosp (fok.sets o ho) fok.n5
theorem parse_nc {n : Int} {f : List (List Int)} (fok : FamOk n f) : parseP (Txt.replace (writtenS n f) ":" "") = none ∧ okB (Txt.replace (writtenS n f) ":" "") = true := by
  refine ⟨parse_first (nc_words fok) (by rw [dig_len (by have := fok.n2; omega) fok.n5]; decide), okB_of (nc_words fok) (by rw [List.length_map]; have := fok.few; omega) fun y hy => ?_⟩
  obtain ⟨o, ho, rfl⟩ := List.mem_map.mp hy
  have := word_len (fok.sets o ho) fok.n5
  omega
theorem parse_long {s : Str} (h : 200 < s.length) : parseP s = none ∧ okB s = true := by
  unfold parseP okB
  rw [if_pos (.inl h), decide_eq_true h]
  exact ⟨rfl, rfl⟩

end G9
namespace G9
open PySem PySem.Spec PyProof.Rows L2 G9S
open L2H HotX
/-! ### the walk of parse_family -/
theorem inS_yes {c : Nat} {x : Str} (h : c ∈ TL.tl x) : inS ⟨#[c]⟩ x = true := by
  obtain ⟨i, hi, e⟩ := List.getElem_of_mem h
  refine (PySem.StrLaws.found_iff x ⟨#[c]⟩).mpr ⟨i, ?_, ?_⟩
  · rw [len_tl x]
    exact hi
  · have hl : i < x.cps.size := by
      have := hi
      rw [← len_tl] at this
      exact this
    unfold Builtin.Str.subAt
    show (x.cps.extract i (i + 1) == #[c]) = true
    have e2 : x.cps.extract i (i + 1) = #[c] := by
      refine Array.toList_inj.mp ?_
      rw [Array.toList_extract]
      have e3 : (TL.tl x).drop i = c :: (TL.tl x).drop (i + 1) := by rw [List.drop_eq_getElem_cons hi, e]
      show ((TL.tl x).drop i).take (i + 1 - i) = _
      rw [e3, show i + 1 - i = 1 by omega]
      rfl
    rw [e2]
    exact beq_self_eq_true _
theorem spl_chars : ∀ (l acc : List Nat), ∀ p ∈ TL.spl [32] 0 acc l, ∀ c ∈ p, c ∈ acc ∨ (c ∈ l ∧ c ≠ 32)
  | [], acc, p, hp, c, hc => by
    rw [TL.spl_nil] at hp
    rw [List.mem_singleton.mp hp] at hc
    exact .inl hc
  | x :: r, acc, p, hp, c, hc => by
    by_cases hx : x = 32
    · have h1 : TL.pre [32] (x :: r) = true := by rw [hx]; exact TL.pre_self [32] r
      rw [TL.spl_hit h1] at hp
      rcases List.mem_cons.mp hp with rfl | hp
      · exact .inl hc
      · have := spl_chars r [] p hp c hc
        rcases this with h | h
        · cases h
        · exact .inr ⟨List.mem_cons_of_mem _ h.1, h.2⟩
    · rw [TL.spl_miss (TL.pre_of_head [] r hx)] at hp
      rcases spl_chars r (acc ++ [x]) p hp c hc with h | h
      · rcases List.mem_append.mp h with h | h
        · exact .inl h
        · rw [List.mem_singleton.mp h]
          exact .inr ⟨List.mem_cons_self, hx⟩
      · exact .inr ⟨List.mem_cons_of_mem _ h.1, h.2⟩
theorem split_tl (s : Str) : (Txt.split s " ").map TL.tl = TL.spl [32] 0 [] (TL.tl s) := by
  have := TL.split_spl s " " (by decide +kernel) (TL.kind_ok (by decide +kernel))
  rw [tl_space] at this
  exact this
theorem split_chars {s p : Str} (hp : p ∈ Txt.split s " ") {c : Nat} (hc : c ∈ TL.tl p) : c ∈ TL.tl s ∧ c ≠ 32 := by
  have h : TL.tl p ∈ TL.spl [32] 0 [] (TL.tl s) := by
    rw [← split_tl]
    exact List.mem_map.mpr ⟨p, hp, rfl⟩
  rcases spl_chars _ _ _ h c hc with h | h
  · cases h
  · exact h
theorem spl_ne : ∀ (l acc : List Nat), TL.spl [32] 0 acc l ≠ []
  | [], acc => by rw [TL.spl_nil]; exact fun z => nomatch z
  | x :: r, acc => by
    by_cases hx : x = 32
    · have h1 : TL.pre [32] (x :: r) = true := by rw [hx]; exact TL.pre_self [32] r
      rw [TL.spl_hit h1]
      exact fun z => nomatch z
    · rw [TL.spl_miss (TL.pre_of_head [] r hx)]
      exact spl_ne r _
theorem split_ne (s : Str) : ∃ w ws, Txt.split s " " = w :: ws := by
  cases e : Txt.split s " " with
  | cons w ws => exact ⟨w, ws, rfl⟩
  | nil =>
    have := split_tl s
    rw [e] at this
    exact absurd this.symm (spl_ne _ _)
theorem spl_len : ∀ (l acc : List Nat), ∀ p ∈ TL.spl [32] 0 acc l, p.length ≤ acc.length + l.length
  | [], acc, p, hp => by
    rw [TL.spl_nil] at hp
    rw [List.mem_singleton.mp hp]
    exact Nat.le_refl _
  | x :: r, acc, p, hp => by
    rw [List.length_cons]
    by_cases hx : x = 32
    · have h1 : TL.pre [32] (x :: r) = true := by rw [hx]; exact TL.pre_self [32] r
      rw [TL.spl_hit h1] at hp
      rcases List.mem_cons.mp hp with rfl | hp
      · omega
      · have := spl_len r [] p hp
        rw [List.length_nil] at this
        omega
    · rw [TL.spl_miss (TL.pre_of_head [] r hx)] at hp
      have := spl_len r (acc ++ [x]) p hp
      rw [List.length_append] at this
      simp at this
      omega
theorem split_len {s p : Str} (hp : p ∈ Txt.split s " ") : p.length ≤ s.length := by
  have h : TL.tl p ∈ TL.spl [32] 0 [] (TL.tl s) := by
    rw [← split_tl]
    exact List.mem_map.mpr ⟨p, hp, rfl⟩
  have := spl_len _ _ _ h
  rw [← len_tl, ← len_tl, List.length_nil] at this
  omega
theorem dig_cases {c : Nat} (h : c ∈ ([48, 49, 50, 51, 52, 53] : List Nat)) : PySem.intText? ⟨#[c]⟩ = some (digOf ⟨#[c]⟩) ∧ (⟨#[c]⟩ : Str).length ≤ 640 := by
  have : ∀ c ∈ ([48, 49, 50, 51, 52, 53] : List Nat), PySem.intText? ⟨#[c]⟩ = some (digOf ⟨#[c]⟩) ∧ (⟨#[c]⟩ : Str).length ≤ 640 := by decide +kernel
  exact this c h
theorem in_2345 {c : Nat} (h : inS ⟨#[c]⟩ "2345" = true) : c ∈ ([48, 49, 50, 51, 52, 53] : List Nat) := by
  by_cases hc : c ∈ TL.tl ("2345" : Str)
  · have e : TL.tl ("2345" : Str) = [50, 51, 52, 53] := by decide +kernel
    rw [e] at hc
    simp at hc ⊢
    omega
  · rw [inS_not hc] at h
    cases h
theorem in_all {c : Nat} (h : inS ⟨#[c]⟩ "01234: 5" = true) : c ∈ ([48, 49, 50, 51, 52, 58, 32, 53] : List Nat) := by
  by_cases hc : c ∈ TL.tl ("01234: 5" : Str)
  · have e : TL.tl ("01234: 5" : Str) = [48, 49, 50, 51, 52, 58, 32, 53] := by decide +kernel
    rw [e] at hc
    exact hc
  · rw [inS_not hc] at h
    cases h
theorem word_digits {s p : Str} (hs : ((signs s).all fun c => inS c "01234: 5") = true) (hp : p ∈ Txt.split s " ") (h5 : (inS "5" p || inS ":" p) = false) : ∀ c ∈ TL.tl p, c ∈ ([48, 49, 50, 51, 52, 53] : List Nat) := fun c hc => by
  obtain ⟨h1, h2⟩ := split_chars hp hc
  rw [List.all_eq_true] at hs
  have h3 := in_all (hs ⟨#[c]⟩ (List.mem_map.mpr ⟨c, h1, rfl⟩))
  rw [Bool.or_eq_false_iff] at h5
  have h4 : c ≠ 53 := fun z => by
    have : inS "5" p = true := inS_yes (c := 53) (z ▸ hc)
    rw [h5.1] at this
    cases this
  have h6 : c ≠ 58 := fun z => by
    have : inS ":" p = true := inS_yes (c := 58) (z ▸ hc)
    rw [h5.2] at this
    cases this
  simp at h3 ⊢
  omega
def outP : Option (Int × List (List Int)) → Out
  | none => .exc 5
  | some (n, f) => .val (dFam n f)
section
variable {P : Program} {w : World} {K : PySem.W.Frag} {mg : Str → Option Value} {base : Heap} {c : Nat → Addr}
def R_parse (ds : List D) (o : Out) : Prop := ∃ d, ds = [d] ∧ ((∃ t, d.tyS = some t ∧ kitB t "str" = some false ∧ o = .exc 5) ∨ ∃ s : Str, d = .str s ∧ s.length ≤ 100000 ∧ okB s = true ∧ o = outP (parseP s))
theorem sc_parse : FnScope ["text", "sign", "words", "word", "found"] ["text"] (defScope s_parse_family) := ⟨rfl, rfl, rfl, by decide +kernel, rfl, by decide +kernel, by decide +kernel⟩
theorem ok_parse {f : Addr} {fd : FuncData} (F : Fun K "parse_family" "parse_family" s_parse_family f fd) (B : Blt mg) (F1 : Fn P w K mg base "is_family" 3 (spR K R_is_family)) (F2 : Fn P w K mg base "written" 1 (spR K R_written)) (T : ExcT K mg "InvalidText" (c 5)) : FnOk P w K mg base (L2N.CX P w) 4 f fd ["text"] (spX K c R_parse) := by
  refine okX F sc_parse (fun ds o h => by obtain ⟨_, rfl, _⟩ := h; rfl) fun cdv A outer s H G E σ ds o Q hr hR sh en tk qv qx => ?_
  have hN := sc_parse.nd
  obtain ⟨d, rfl, ⟨t, ht, hk, rfl⟩ | ⟨x, rfl, hx, hok, rfl⟩⟩ := hR
  · refine s_when (b := true) ((t_or3 (l := false) (m := false) (t_not (t_val (e_isi "str" (t := t) (k := false) B (e_v 0) ht hk B.str_))) (fun h => nomatch h) fun h => nomatch h).is (by simp)) same_nil sh en (fun _ G1 H1 f1 en1 => ?_) fun z => nomatch z
    exact s_raise T tk (qx 5 rfl _ _ f1)
  have hsz : x.length ≤ sizeLine := Nat.le_trans hx (by decide)
  have hsl : (signs x).length ≤ 100000 := by
    unfold signs
    rw [List.length_map, Array.length_toList]
    exact hx
  have hgo : ∀ {b : Bool}, (b = true → parseP x = none) → b = true → outP (parseP x) = .exc 5 := fun h hb => by rw [h hb]; rfl
  refine s_when (t_or3 (t_not (t_val (e_isi "str" (t := "str") (k := true) B (e_v 0) rfl (by decide +kernel) B.str_))) (fun _ => t_cmp op_gt (e_lenS B (e_v 0) hsz) e_int rd_b) fun _ _ => t_not (t_val (e_all B (l_lc 1 (c_map D.str (signs x) (fun c => .bl (inS c "01234: 5")) 1 (i_str (e_v 0)) hsl fun c hc _ _ _ _ _ => e_cmp op_in_str (e_v 1) e_str rd_inS)))))
    same_nil sh en (fun hb G1 H1 f1 en1 => s_raise T tk (qx 5 (hgo (fun hb => ?_) hb) _ _ f1)) fun hb G1 H1 f1 en1 => ?_
  · unfold parseP
    rw [if_pos]
    simp only [Bool.not_true, Bool.false_or, Bool.or_eq_true, decide_eq_true_eq, Bool.not_eq_true'] at hb
    rcases hb with hb | hb
    · exact .inl (by omega)
    · exact .inr hb
  simp only [Bool.not_true, Bool.false_or, Bool.or_eq_false_iff, decide_eq_false_iff_not, Bool.not_eq_false'] at hb
  obtain ⟨hb1, hb2⟩ := hb
  have hb1 : ¬ 200 < x.length := by omega
  have e0 : ¬ (200 < x.length ∨ ((signs x).all fun c => inS c "01234: 5") = false) := fun z => by
    rcases z with z | z
    · exact hb1 z
    · rw [hb2] at z
      cases z
  obtain ⟨w0, ws, hw⟩ := split_ne x
  have hP : parseP x = (if w0.length ≠ 2 then none else
    match signs w0 with
    | [a, b] =>
      if inS a "2345" = false ∨ b ≠ (":" : Str) then none else
      if (ws.any fun x => inS "5" x || inS ":" x) = true then none else
      let f := ws.map fun x => (signs x).map digOf
      if isFamD (dFam (digOf a) f) = true ∧ writtenS (digOf a) f = x then some (digOf a, f) else none
    | _ => none) := by
    unfold parseP
    (rw [if_neg e0, hw]) <;> rfl
  have hok2 : ws.length < 64 ∧ ∀ y ∈ ws, y.length < 64 := by
    unfold okB at hok
    rw [hw] at hok
    simp only [Bool.or_eq_true, Bool.and_eq_true, decide_eq_true_eq, List.all_eq_true] at hok
    rcases hok with h | h
    · exact absurd h hb1
    · exact h
  refine s_asg 2 ((l_splitS (e_v 0) e_str (by decide +kernel) (Nat.le_trans (Nat.add_le_add_right hx 2) (by decide))).ev.is (by rw [hw])) same_nil f1.s en1 fun σ2 G2 H2 f2 en2 => ?_
  have f12 := f1.trans f2
  have hw0 : w0 ∈ Txt.split x " " := by rw [hw]; exact List.mem_cons_self
  have hws : ∀ y ∈ ws, y ∈ Txt.split x " " := fun y hy => by rw [hw]; exact List.mem_cons_of_mem _ hy
  have hat : atI (List.map D.str (w0 :: ws)) 0 = some (D.str w0) := L2.atI_nat (xs := List.map D.str (w0 :: ws)) (j := 0) rfl
  have hl0 : w0.length ≤ sizeLine := Nat.le_trans (split_len hw0) hsz
  by_cases h2 : w0.length = 2
  rotate_left
  · exact s_when (b := true) ((t_or3 (l := false) (m := false) ((t_cmp op_ne (e_lenS B (e_atL (d := .str w0) (e_v 2) hat) hl0) e_int rd_neI).is (k' := true) (by
      simp
      omega)) (fun h => nomatch h) fun h => nomatch h).is (by simp)) same_nil f2.s en2 (fun _ G3 H3 f3 en3 => s_raise T tk (qx 5 (by rw [hP, if_pos h2]; rfl) _ _ (f12.trans f3))) fun z => nomatch z
  obtain ⟨a, b, e2⟩ : ∃ a b, TL.tl w0 = [a, b] := by
    rw [len_tl] at h2
    match TL.tl w0, h2 with
    | [a, b], _ => exact ⟨a, b, rfl⟩
  have es : signs w0 = [⟨#[a]⟩, ⟨#[b]⟩] := by
    have : signs w0 = (TL.tl w0).map fun c => (⟨#[c]⟩ : Str) := rfl
    rw [this, e2]
    rfl
  have hP2 : parseP x = (if inS ⟨#[a]⟩ "2345" = false ∨ (⟨#[b]⟩ : Str) ≠ (":" : Str) then none else
      if (ws.any fun x => inS "5" x || inS ":" x) = true then none else
      if isFamD (dFam (digOf ⟨#[a]⟩) (ws.map fun x => (signs x).map digOf)) = true ∧ writtenS (digOf ⟨#[a]⟩) (ws.map fun x => (signs x).map digOf) = x then some (digOf ⟨#[a]⟩, ws.map fun x => (signs x).map digOf) else none) := by
    rw [hP, if_neg (fun z => z h2), es]
  have ha : atI w0.cps.toList 0 = some a := by
    show atI (TL.tl w0) 0 = _
    rw [e2]
    exact L2.atI_nat (xs := [a, b]) (j := 0) rfl
  have hb : atI w0.cps.toList 1 = some b := by
    show atI (TL.tl w0) 1 = _
    rw [e2]
    exact L2.atI_nat (xs := [a, b]) (j := 1) rfl
  refine s_when (b := (!inS ⟨#[a]⟩ "2345" || !decide ((⟨#[b]⟩ : Str) = (":" : Str)))) ((t_or3 ((t_cmp op_ne (e_lenS B (e_atL (d := .str w0) (e_v 2) hat) hl0) e_int rd_neI).is (k' := false) (by
      simp
      omega)) (fun _ => t_cmp op_notin_str (e_ix ix_str (e_atL (d := .str w0) (e_v 2) hat) e_int (rd_ixS hl0 ha)) e_str (rd_ninS)) fun _ _ => t_cmp op_ne (e_ix ix_str (e_atL (d := .str w0) (e_v 2) hat) e_int (rd_ixS hl0 hb)) e_str rd_neT).is (by rw [Bool.false_or]; rfl)) same_nil f2.s en2 (fun hz G3 H3 f3 en3 => s_raise T tk (qx 5 (by
        rw [hP2, if_pos (by
          rw [Bool.or_eq_true] at hz
          rcases hz with hz | hz
          · exact .inl (by simpa using hz)
          · exact .inr (by simpa using hz))]
        rfl) _ _ (f12.trans f3))) fun hz G3 H3 f3 en3 => ?_
  rw [Bool.or_eq_false_iff] at hz
  obtain ⟨hz1, hz2⟩ := hz
  have hz1 : inS ⟨#[a]⟩ "2345" = true := by simpa using hz1
  have hz2 : (⟨#[b]⟩ : Str) = (":" : Str) := by simpa using hz2
  rw [if_neg (fun z => by
    rcases z with z | z
    · rw [hz1] at z; cases z
    · exact z hz2)] at hP2
  have f13 := f12.trans f3
  have hwl : ws.length ≤ 100000 := by omega
  refine s_when (t_val (e_any B (l_lc 3 (c_map D.str ws (fun y => .bl (inS "5" y || inS ":" y)) 3 (i_lst ((l_tail (e_v 2)).ev.is (by rfl))) hwl fun y hy _ _ _ _ _ => e_or (e_cmp op_in_str e_str (e_v 3) rd_inS) fun _ => e_one (e_cmp op_in_str e_str (e_v 3) rd_inS))))) same_nil f3.s en3 (fun hz G4 H4 f4 en4 => s_raise T tk (qx 5 (by rw [hP2, if_pos hz]; rfl) _ _ (f13.trans f4))) fun hz G4 H4 f4 en4 => ?_
  rw [if_neg (by rw [hz]; decide)] at hP2
  have f14 := f13.trans f4
  have hdg : ∀ y ∈ ws, ∀ c ∈ TL.tl y, c ∈ ([48, 49, 50, 51, 52, 53] : List Nat) := fun y hy => word_digits hb2 (hws y hy) (by
    rw [List.any_eq_false] at hz
    simpa using hz y hy)
  generalize hf : (ws.map fun x => (signs x).map digOf) = fs at hP2
  refine s_asg 4 (d := dFam (digOf ⟨#[a]⟩) fs) ((e_tup (a_cons (e_intS B (e_ix ix_str (e_atL (d := .str w0) (e_v 2) hat) e_int (rd_ixS hl0 ha)) (dig_cases (in_2345 hz1)).1 (dig_cases (in_2345 hz1)).2) (a_cons (e_tuple B (l_lc 3 (c_map D.str ws (fun y => dS ((signs y).map digOf)) 3 (i_lst ((l_tail (e_v 2)).ev.is (by rfl))) hwl fun y hy _ _ _ _ _ => e_tuple B ((l_lc 1 (c_map D.str (signs y) (fun c => .int (digOf c)) 1 (i_str (e_v 3)) (by
      have := hok2.2 y hy
      unfold signs
      rw [List.length_map, Array.length_toList]
      show y.length ≤ 100000
      omega) fun c hc _ _ _ _ _ => by
        obtain ⟨c', hc', rfl⟩ := List.mem_map.mp hc
        exact e_intS B (e_v 1) (dig_cases (hdg y hy c' hc')).1 (dig_cases (hdg y hy c' hc')).2)).ev.is (by rw [List.map_map]; rfl)))).ev) a_nil)) (by show 2 ≤ 100000; decide)).is (by
        rw [← hf]
        show D.tup [.int _, .tup _] = D.tup [.int _, .tup _]
        rw [List.map_map]
        rfl)) same_nil f4.s en4 fun σ5 G5 H5 f5 en5 => ?_
  have f15 := f14.trans f5
  have hsm : Sm 3 (dFam (digOf ⟨#[a]⟩) fs) := .tup (by show 2 < 64; decide) fun d hd => by
    rcases List.mem_cons.mp hd with rfl | hd
    · exact .int _
    · rw [List.mem_singleton.mp hd, ← hf]
      refine .tup (by rw [List.length_map, List.length_map]; exact hok2.1) fun d hd => ?_
      obtain ⟨o, ho, rfl⟩ := List.mem_map.mp hd
      obtain ⟨y, hy, rfl⟩ := List.mem_map.mp ho
      refine .tup (by
        rw [List.length_map, List.length_map]
        unfold signs
        rw [List.length_map, Array.length_toList]
        exact hok2.2 y hy) fun d hd => ?_
      obtain ⟨i, _, rfl⟩ := List.mem_map.mp hd
      exact .int i
  by_cases hfam : isFamD (dFam (digOf ⟨#[a]⟩) fs) = true
  rotate_left
  · have hfam : isFamD (dFam (digOf ⟨#[a]⟩) fs) = false := by simpa using hfam
    exact s_when (b := true) ((t_or2 (l := false) (t_not (t_val (e_call F1 hr (a_cons (e_v 4) a_nil) ⟨_, .inl ⟨3, by decide, hsm⟩, rfl, rfl⟩))) fun h => by rw [hfam] at h; exact nomatch h).is (by rw [hfam]; rfl)) same_nil f5.s en5 (fun _ G6 H6 f6 en6 => s_raise T tk (qx 5 (by
      rw [hP2, if_neg fun z => by rw [hfam] at z; exact nomatch z.1]
      rfl) _ _ (f15.trans f6))) fun z => nomatch z
  have fok := fam_ok hfam
  refine s_when (b := !decide (writtenS (digOf ⟨#[a]⟩) fs = x)) ((t_or2 (t_not (t_val (e_call F1 hr (a_cons (e_v 4) a_nil) ⟨_, .inl ⟨3, by decide, hsm⟩, rfl, rfl⟩))) fun _ => t_cmp op_ne (e_call F2 (hr.mono (by decide)) (a_cons (e_v 4) a_nil) ⟨_, _, fok, rfl, rfl⟩) (e_v 0) rd_neT).is (by rw [hfam]; rfl)) same_nil f5.s en5 (fun hz G6 H6 f6 en6 => s_raise T tk (qx 5 (by
      rw [hP2, if_neg fun z => by rw [z.2] at hz; simp at hz]
      rfl) _ _ (f15.trans f6))) fun hz G6 H6 f6 en6 => ?_
  have hz : writtenS (digOf ⟨#[a]⟩) fs = x := by simpa using hz
  exact s_ret (e_v 4) same_nil f6.s en6 fun v G7 H7 f7 r7 => qv (dFam (digOf ⟨#[a]⟩) fs) (by
    rw [hP2, if_pos ⟨hfam, hz⟩]
    rfl) v G7 H7 ((f15.trans f6).trans f7) r7
end

end G9
namespace G9
open PySem PySem.Spec PyProof.Rows L2 G9S
open L2H HotX
section
variable {X : Cx} {T : Tbs} {a : Addr} {ρ : Ro} {e1 e2 : Expr} {P P1 P2 : D → Prop} {pos p : Pos}
theorem p_cmp {op : CmpOp} {r : R2} (ho : OpR X (compareOp op) r) (ha : EvP X T a ρ e1 P1) (hb : EvP X T a ρ e2 P2) (hr : ∀ da db, P1 da → P2 db → ∃ d, P d ∧ Rd2 X.K Nil r da db d) (hm : behindInMarks op e2 = false := by first | exact nomark _ | rfl) : EvP X T a ρ (.Compare e1 [op] [e2] pos) P := fun Hs σ G H w en Q q =>
  wE_of (pe_cmpR ho pw pw hm) (p_two ha hb w en fun x y dx dy G1 H1 f1 r1 r2 h1 h2 => by
    obtain ⟨d, hd, k⟩ := hr dx dy h1 h2
    exact k x y G1 H1 same_nil f1.s r1 r2 _ fun z G3 H3 f3 r3 => q z d G3 H3 (f1.trans ((w.fw f1).ofFr f3)) r3 hd)
theorem okC {P : Program} {w : World} {K : PySem.W.Frag} {mg : Str → Option Value} {base : Heap} {x qual : Str} {st : Stmt} {f : Addr} {oc kV doc pm cdv ct : Value} {od an : Option Addr} {osl : Array (Option Value)} {N ps : List Str} {k : Nat} {sp : Sp}
    (lk : K.lookup f = some ⟨oc, od, .func (PySem.W.fnOf x qual (defArgs st) (defBody st) (defScope st) .none kV doc pm an cdv ct), osl⟩) (hcd : PySem.W.codeIn K cdv qual = true) (S : FnScope N ps (defScope st)) (len : ∀ vs H Q E, sp vs H Q E → vs.length = ps.length)
    (hbody : ∀ (A : Around) (outer : List Env) (s : Shared) (H : Hp) (E : XK) (vs : List V) (Q : VK), Room k (A.deeper (envOfC qual (defScope st) s.heap.objs.size f cdv)) → sp vs H Q E →
      wB (cxOf CX0 P w K mg base N qual (defScope st) f cdv A outer s H E).nox (defBody st) { nx := fun _ H' => Q .non H', rt := Q } (L2.start N vs) H) : FnOk P w K mg base CX0 (k + 1) f (PySem.W.fnOf x qual (defArgs st) (defBody st) (defScope st) .none kV doc pm an cdv ct) ps sp := by
  refine fn_of lk hcd S len fun A outer s H vs Q E hr hsp => ?_
  exact ⟨_, PSs.nox pbw, hbody A outer s H E vs Q hr hsp⟩
end

end G9
namespace G9
open PySem PySem.Spec PyProof.Rows L2 G9S
/-! ### law 10 -/
open L2H HotX
def Out.isExc (o : Out) (i : Nat) : Bool := match o with
  | .exc j => decide (i = j)
  | _ => false
theorem text10 : ∀ g : Nat, g < 90 → okB (toString ((10 : Int) + (g : Nat))) = true ∧ (outP (parseP (toString ((10 : Int) + (g : Nat))))).isExc 5 = true ∧ (toString ((10 : Int) + (g : Nat)) : Str).length ≤ 100000 := by decide +kernel
section
variable {P : Program} {w : World} {K : PySem.W.Frag} {mg : Str → Option Value} {base : Heap}
abbrev N10 : List Str := ["script", "dice", "great", "wide", "made", "e", "at"]
theorem sc_law : FnScope N10 ["script"] (defScope s_law) := ⟨rfl, rfl, rfl, by decide +kernel, rfl, by decide +kernel, by decide +kernel⟩
def forB : Stmt → List Stmt
  | .For _ _ b _ _ => b
  | _ => []
abbrev bodyRound : List Stmt := forB ((defBody s_law).getD 0 (.Pass ⟨0, 0, 0, 0⟩))
abbrev cx10 (P : Program) (w : World) (K : PySem.W.Frag) (mg : Str → Option Value) (base : Heap) (f : Addr) (cdv : Value) (A : Around) (outer : List Env) (s : Shared) (H : Hp) (E : XK) : Cx := (cxOf CX0 P w K mg base N10 "law" (defScope s_law) f cdv A outer s H E).nox
structure LW10 (P : Program) (w : World) (K : PySem.W.Frag) (mg : Str → Option Value) (base : Heap) (C : Addr) (c : Nat → Addr) (g CS : Addr) (fdt : FuncData) (cc P0 : Addr) (T : Tbs) : Prop where
  B : Blt mg
  roll : Fn P w K mg base "_law_roll" 2 spRoll
  rounds : Fn P w K mg base "_law_rounds" 2 (spRounds K)
  alone : Fn P w K mg base "_law_alone" 1 (spAlone K c)
  form : FnX P w K mg base "form" 5 (spX K c R_formX)
  pick : FnX P w K mg base "pick" 5 (spX K c R_pickX)
  bset : FnX P w K mg base "best_set" 5 (spX K c R_bestX)
  low : FnX P w K mg base "low_worths" 5 (spX K c R_lowX)
  fof : FnX P w K mg base "families_of" 2 (spX K c R_fofX)
  parse : FnX P w K mg base "parse_family" 4 (spX K c R_parse)
  alike : FnX P w K mg base "alike" 6 (spX K c R_allX)
  bt : BTx K mg C
  make : MkB P w K mg base C (c 0)
  redo : FnMX P w K mg base C "redo" 2 (spRedo0 K C (c 7))
  met : MetT K mg c g CS fdt
  tb : LamX.TabB base mg cc P0
  hmT : (P0, ("law.<locals>." : Str) ++ "<lambda>") ∈ T
  hu : ∀ p ∈ T, p.1 = P0 → p.2 = ("law.<locals>." : Str) ++ "<lambda>"
variable {A : Around} {outer : List Env} {s : Shared} {Hx : Hp} {E : XK} {f0 : Addr} {Hs G H : Hp} {a : Addr} {σ : L2.St} {N : Ends} {T : Tbs} {C : Addr} {c : Nat → Addr} {g CS cc P0 : Addr} {fdt : FuncData}
/-- _law_alone(e, at) -/
theorem e_alone {X : Cx} {H0 : Hp} {ρ : Ro} {e1 e2 : Expr} {x : Addr} {i j : Nat} {p pos : Pos} (F : Fn X.prog X.w X.K X.mg X.base "_law_alone" 1 (spAlone X.K c)) (hr : Room 1 X.A) (hi : i < 8) (h0 : H0 x = some (ExR (.ref (c i)) x)) (h1 : Ev X H0 ρ e1 (.ref x)) (h2 : Ev X H0 ρ e2 (.int (j : Int))) (hg : Gl X "_law_alone" := by rfl)
    (he : starEach [e1, e2] X.env = (false, eval e1 X.env) :: starEach [e2] X.env := by rfl) (he2 : starEach [e2] X.env = (false, eval e2 X.env) :: starEach [] X.env := by rfl) (hpl : (backTo pos (starEach [e2] X.env)).any (·.1) = false := by rfl) : Ev X H0 ρ (.Call (.Name "_law_alone" p) [e1, e2] [] pos) (.bl (decide (i = j))) := fun σ G H sg sh en Q q => by
  obtain ⟨f, fd, ps, CX, F1, hm, hk, hb, hx⟩ := F.ex
  refine wE_of (pe_call F1 hr hg hm hk hb .nil (hx X rfl rfl) paw (by decide) he hpl) (a_cons h1 (a_cons h2 a_nil he2) he σ G H sg sh en _ fun vs G1 H1 f1 r1 => ?_)
  rw [List.append_nil]
  cases r1 with
  | cons ra r1 =>
    cases r1 with
    | cons rb r1 =>
      cases r1
      rw [ra.ref_of, rb.int_of]
      exact ⟨x, i, j, G1, rfl, hi, f1.s, f1.g _ _ (sg _ _ h0), fun G' H' f => q _ G' H' (f1.trans f) (.bl _)⟩
end

end G9
namespace G9
open PySem PySem.Spec PyProof.Rows L2 G9S
/-! ### pairs of names, some of them cells -/
open L2H HotX
section
variable {X : Cx} {T : Tbs} {Hs : Hp} {a : Addr} {ρ : Ro} {e1 e2 e3 : Expr} {pos p : Pos} {x y z : Str} {px py pz pt : Pos} {kt k2 pt2} {σ : L2.St} {G H : Hp} {rest : List Stmt} {N : Ends}
/-- x, y = e1, e2 -/
theorem z_tup2 {P : D → D → Prop} (i j : Nat) (h : EvPA X T a ρ [e1, e2] fun ds => ∃ d1 d2, ds = [d1, d2] ∧ P d1 d2) (w : Wz T Hs a G H) (en : En X.K G σ ρ) (k : ∀ d1 d2, P d1 d2 → ∀ σ' G' H', Fw T a G H G' H' → Wz T Hs a G' H' → En X.K G' σ' ((ρ.set i (some d1)).set j (some d2)) → wB X rest N σ' H') (hN : X.N.Nodup := by assumption)
    (g1 : PG X (.Name x px) (gName i) := by first | exact pg_name (by assumption) rfl (Or.inl rfl) | exact pg_name (by assumption) rfl (Or.inr rfl)) (g2 : PG X (.Name y py) (gName j) := by first | exact pg_name (by assumption) rfl (Or.inl rfl) | exact pg_name (by assumption) rfl (Or.inr rfl))
    (hc : X.calm = true := by rfl) (hn : (assignEach [Expr.Name x px, .Name y py] X.env).length = 2 := by rfl) (hst : (assignEach [Expr.Name x px, .Name y py] X.env).findIdx? (·.1) = none := by rfl)
    (hs1 : (assignEach [Expr.Name x px, .Name y py] X.env).map (·.2) = assign (.Name x px) X.env :: (assignEach [.Name y py] X.env).map (·.2) := by rfl) (hs2 : (assignEach [Expr.Name y py] X.env).map (·.2) = assign (.Name y py) X.env :: (assignEach [] X.env).map (·.2) := by rfl)
    (hs : swapsWithSole [.Tuple [.Name x px, .Name y py] kt pt] (.Tuple [e1, e2] k2 pt2) pos.line X.env = pure false := by rfl) (hw : swappedStores [.Tuple [.Name x px, .Name y py] kt pt] (.Tuple [e1, e2] k2 pt2) X.env = pure none := by rfl) (h1 : (assignEach [.Tuple [.Name x px, .Name y py] kt pt] X.env).map (·.2) = [assign (.Tuple [.Name x px, .Name y py] kt pt) X.env] := by rfl) :
    wB X (.Assign [.Tuple [.Name x px, .Name y py] kt pt] (.Tuple [e1, e2] k2 pt2) pos :: rest) N σ H := by
  refine wB_cons (wS_of (ps_asg (pe_tup paw) (pg_tup hc (pgs_cons g1 (pgs_cons g2 pgs_nil hs2) hs1) hn hst) hs hw h1) (h Hs σ G H w en _ fun vs ds G1 H1 f1 r1 ⟨d1, d2, e, hP⟩ => ?_))
  subst e
  cases r1 with
  | cons ra r1 =>
    cases r1 with
    | cons rb r1 =>
      cases r1
      refine ⟨by show 2 ≤ sizeLine; decide, fun q hq => ⟨q, _, rfl, .inl (.inl upd_same), rfl, _, _, rfl, _, _, rfl, rfl, ?_⟩⟩
      exact k d1 d2 hP _ G1 _ (f1.trans ((w.fw f1).ofFr (Fr.newH f1.s hq))) (w.fw (f1.trans ((w.fw f1).ofFr (Fr.newH f1.s hq)))) (((en.kp f1.g).set i ra).set j rb)
/-- x, (y, z) = e1, e2 -/
theorem z_nest {z : Str} {pz pt3 : Pos} {kt3 : Nat} {P : D → D → D → Prop} (i j l : Nat) (h : EvPA X T a ρ [e1, e2] fun ds => ∃ d1 d2 d3, ds = [d1, .tup [d2, d3]] ∧ P d1 d2 d3) (w : Wz T Hs a G H) (en : En X.K G σ ρ) (k : ∀ d1 d2 d3, P d1 d2 d3 → ∀ σ' G' H', Fw T a G H G' H' → Wz T Hs a G' H' → En X.K G' σ' (((ρ.set i (some d1)).set j (some d2)).set l (some d3)) → wB X rest N σ' H') (hN : X.N.Nodup := by assumption)
    (g : PG X (.Tuple [.Name x px, .Tuple [.Name y py, .Name z pz] kt3 pt3] kt pt) (gTup X.K 2 (gCons (gName i) (gCons (gTup X.K 2 (gCons (gName j) (gCons (gName l) gNil))) gNil))) := by exact pg_tup rfl (pgs_cons (pg_name (by assumption) rfl (by first | exact Or.inl rfl | exact Or.inr rfl)) (pgs_cons (pg_tup rfl (pgs_cons (pg_name (by assumption) rfl (by first | exact Or.inl rfl | exact Or.inr rfl)) (pgs_cons (pg_name (by assumption) rfl (by first | exact Or.inl rfl | exact Or.inr rfl)) pgs_nil))) pgs_nil)))
    (hs : swapsWithSole [.Tuple [.Name x px, .Tuple [.Name y py, .Name z pz] kt3 pt3] kt pt] (.Tuple [e1, e2] k2 pt2) pos.line X.env = pure false := by rfl) (hw : swappedStores [.Tuple [.Name x px, .Tuple [.Name y py, .Name z pz] kt3 pt3] kt pt] (.Tuple [e1, e2] k2 pt2) X.env = pure none := by rfl) (h1 : (assignEach [.Tuple [.Name x px, .Tuple [.Name y py, .Name z pz] kt3 pt3] kt pt] X.env).map (·.2) = [assign (.Tuple [.Name x px, .Tuple [.Name y py, .Name z pz] kt3 pt3] kt pt) X.env] := by rfl) :
    wB X (.Assign [.Tuple [.Name x px, .Tuple [.Name y py, .Name z pz] kt3 pt3] kt pt] (.Tuple [e1, e2] k2 pt2) pos :: rest) N σ H := by
  refine wB_cons (wS_of (ps_asg (pe_tup paw) g hs hw h1) (h Hs σ G H w en _ fun vs ds G1 H1 f1 r1 ⟨d1, d2, d3, e, hP⟩ => ?_))
  subst e
  cases r1 with
  | cons ra r1 =>
    cases r1 with
    | cons rb r1 =>
      cases r1
      obtain ⟨p2, xs2, rfl, hs2, rl2⟩ := rb.tup_of
      cases rl2 with
      | cons rc rl2 =>
        cases rl2 with
        | cons rd rl2 =>
          cases rl2
          refine ⟨by show 2 ≤ sizeLine; decide, fun q hq => ?_⟩
          have fw := fun (o : HO) => f1.trans ((w.fw f1).ofFr (Fr.newH (o := o) f1.s hq))
          exact ⟨q, _, rfl, .inl (.inl upd_same), rfl, _, _, rfl, _, _, rfl, p2, _, rfl, Same.sqT (fw _).s hs2, rfl, _, _, rfl, _, _, rfl, rfl, rfl, k d1 d2 d3 hP _ G1 _ (fw _) (w.fw (fw _)) ((((en.kp f1.g).set i ra).set j rc).set l rd)⟩
end

end G9
namespace G9
open PySem PySem.Spec PyProof.Rows L2 G9S
open L2H HotX
section
variable {P : Program} {w : World} {K : PySem.W.Frag} {mg : Str → Option Value} {base : Heap}
variable {A : Around} {outer : List Env} {s : Shared} {Hx : Hp} {E : XK} {f0 : Addr} {Hs G H : Hp} {a : Addr} {σ : L2.St} {N : Ends} {T : Tbs} {C : Addr} {c : Nat → Addr} {g CS cc P0 : Addr} {fdt : FuncData}
theorem redo_no : ¬ (("redo" : Str) = "undone") ∧ ¬ (("redo" : Str) = "rows") ∧ ¬ (("redo" : Str) = "family") := by decide +kernel
/-- Basket(e).redo() -/
theorem x_redo {X : Cx} {ρ : Ro} {e : Expr} {n : Int} {f : List (List Int)} {p1 p2 pa pos : Pos} {pl : Sem Bool} (F : FnMX X.prog X.w X.K X.mg X.base C "redo" 2 (spRedo0 X.K C (c 7))) (M : MkB X.prog X.w X.K X.mg X.base C (c 0)) (Tx : BTx X.K X.mg C) (hr : Room 6 X.A) (tk : L2N.Takes X (fun cls d _ H => E cls d H)) (fok : FamOk n f) (h : Ev X Nil ρ e (dFam n f))
    (ht : eval (.Call (.Attribute (.Call (.Name "Basket" p1) [e] [] p2) "redo" pa) [] [] pos) X.env = (do
      let ov ← eval (.Call (.Name "Basket" p1) [e] [] p2) X.env
      standAt pa.atName
      let (f, first) ← holding [ov] (getMethod ov "redo" pl)
      callWith pos f first (backTo pos (starEach [] X.env)) (backToKw pos (keywordEach [] X.env)))) (hg : Gl X "Basket" := by rfl)
    (he : starEach [e] X.env = (false, eval e X.env) :: starEach [] X.env := by rfl) (hpl : (backTo p2 (starEach [] X.env)).any (·.1) = false := by rfl) : EvX X c E Nil ρ (.Call (.Attribute (.Call (.Name "Basket" p1) [e] [] p2) "redo" pa) [] [] pos) (.exc 7) := fun σ G H sg sh en Q qv qx => by
  refine w_methX0 (pl := pl) F Tx.cl (hr.mono (by decide)) tk (w_makeX M Tx hr tk en sg sh h (.inl ⟨3, by decide, fok.sm⟩) (.inl ⟨n, f, rfl, fok⟩) (fun n' f' e' fok' x G1 H1 f1 hx bk => ?_) (fun hno => ?_) hg he hpl) ht
  · obtain ⟨dx, vf, vr, vu, hp, _⟩ := bk.ex
    exact ⟨x, dx, _, rfl, hp, bfs_no _ _ _ redo_no.1 redo_no.2.1 redo_no.2.2, x, G1, _, rfl, f1.s, bk, rfl, fun G2 H2 f2 => qx 7 rfl _ _ (f1.trans f2)⟩
  · rw [fok.is] at hno
    cases hno
abbrev ro10 (a : Addr) (g : Int) (x4 x5 x6 : Option D) : Ro := [none, some (.ref a), some (.int g), some (dFam 5 [[0, 1, 2, 3, 4]]), x4, x5, x6]
theorem mets10 (L : LW10 P w K mg base C c g CS fdt cc P0 T) (hr : Room 8 (A.deeper (envOfC "law" (defScope s_law) s.heap.objs.size f0 (.ref cc)))) (wz : Wz T Hs a G H) {gr : Int} (g0 : 10 ≤ gr) (g1 : gr < 100) {x4 x5 x6 : Option D} {rest4 : List Stmt} (hrest : bodyRound.drop 9 = rest4)
    (en : En K G σ (ro10 a gr x4 x5 x6))
    (k : ∀ l xs σ' G' H', xs.length = 8 → Met T Hs a c l G' H' xs → En K G' σ' (ro10 a gr (some (.ref l)) x5 x6) → wB (cx10 P w K mg base f0 (.ref cc) A outer s Hx E) rest4 N σ' H') :
    wB (cx10 P w K mg base f0 (.ref cc) A outer s Hx E) (bodyRound.drop 1) N σ H := by
  have hN : N10.Nodup := sc_law.nd
  have B := L.B
  have hr7 := hr.mono (show 7 ≤ 8 by decide)
  have hr4 := hr.mono (show 4 ≤ 8 by decide)
  have hr6 := hr.mono (show 6 ≤ 8 by decide)
  have rok : RuleOk 5 .best := ⟨fun z e => nomatch e⟩
  have sint : ∀ i : Int, Sm 0 (.int i) := fun i => .int _
  refine z_met1 4 (m_met (k := 5) L.met L.tb rfl L.hmT L.hu hr7 (by decide) fun E A outer s Hx f c' hr' => x_call L.form hr' takes_lam (a_cons (e_tup (ds := [.int gr]) (a_cons (e_v 2) a_nil) (by show 1 ≤ 100000; decide)) a_nil) ⟨_, .inl ⟨1, by decide, .tup (by show 1 < 64; decide) fun d hd => by rw [List.mem_singleton.mp hd]; exact .int _⟩, rfl, rfl, rfl⟩) wz en fun l y0 σ1 G1 H1 m1 en1 => ?_
  refine z_met2 (xs := [y0]) (e_v 4) (m_met (k := 5) L.met L.tb rfl L.hmT L.hu hr7 (by show 1 < 8; decide) fun E A outer s Hx f c' hr' => x_call L.pick hr' takes_lam (a_cons (e_v 3) (a_cons (e_v 2) (a_cons e_non a_nil))) ⟨5, _, .int gr, .non, 0, fam5, by decide, sint _, rfl, rfl, rfl⟩) m1 (by show 1 < 100; decide) en1 fun y1 G2 H2 m2 en2 => ?_
  refine z_met2 (xs := [y0, y1]) (e_v 4) (m_met (k := 5) L.met L.tb rfl L.hmT L.hu hr7 (by show 2 < 8; decide) fun E A outer s Hx f c' hr' => x_call L.bset hr' takes_lam (a_cons (e_v 3) (a_cons (e_v 2) a_nil)) ⟨5, _, .int gr, 0, fam5, by decide, sint _, rfl, rfl, rfl⟩) m2 (by show 2 < 100; decide) en2 fun y2 G3 H3 m3 en3 => ?_
  refine z_met2 (xs := [y0, y1, y2]) (e_v 4) (m_met (k := 5) L.met L.tb rfl L.hmT L.hu hr7 (by show 3 < 8; decide) fun E A outer s Hx f c' hr' => x_call L.low hr' takes_lam (a_cons (e_v 3) (a_cons e_str (a_cons (e_tup (ds := [.int gr, .int 1]) (a_cons (e_v 2) (a_cons e_int a_nil)) (by show 2 ≤ 100000; decide)) a_nil))) ⟨5, _, .best, _, 1, fam5, rok, by decide, .tup (by show 2 < 64; decide) fun d hd => by
      rcases List.mem_cons.mp hd with rfl | hd
      · exact .int _
      · rw [List.mem_singleton.mp hd]
        exact .int _, by
      show (_ && (_ && (_ && decide (gr ≤ 1)))) = false
      rw [decide_eq_false (show ¬ gr ≤ 1 by omega)]
      simp, rfl, rfl⟩) m3 (by show 3 < 100; decide) en3 fun y3 G4 H4 m4 en4 => ?_
  refine z_met2 (xs := [y0, y1, y2, y3]) (e_v 4) (m_met (k := 2) L.met L.tb rfl L.hmT L.hu hr4 (by show 4 < 8; decide) fun E A outer s Hx f c' hr' => x_call L.fof hr' takes_lam (a_cons (e_v 2) a_nil) ⟨.int gr, (fun z => nomatch z), by
      show (decide (2 ≤ gr) && decide (gr ≤ 4)) = false
      rw [decide_eq_false (show ¬ gr ≤ 4 by omega)]
      simp, rfl, rfl⟩) m4 (by show 4 < 100; decide) en4 fun y4 G5 H5 m5 en5 => ?_
  have ht := text10 (gr - 10).toNat (by omega)
  have eg : (10 : Int) + ((gr - 10).toNat : Nat) = gr := by omega
  rw [eg] at ht
  have ho : outP (parseP (toString gr)) = .exc 5 := by
    have h2 := ht.2.1
    unfold Out.isExc at h2
    split at h2
    · rename_i j e
      rw [e, ← of_decide_eq_true h2]
    · cases h2
  refine z_met2 (xs := [y0, y1, y2, y3, y4]) (e_v 4) (m_met (k := 4) L.met L.tb rfl L.hmT L.hu hr6 (by show 5 < 8; decide) fun E A outer s Hx f c' hr' => x_call L.parse hr' takes_lam (a_cons (e_strI B (e_v 2) (by
      have : gr.natAbs < 100 := by omega
      have h2 := Nat.log2_lt (n := gr.natAbs) (k := 7) (by omega)
      omega)) a_nil) ⟨_, rfl, .inr ⟨_, rfl, ht.2.2, ht.1, ho.symm⟩⟩) m5 (by show 5 < 100; decide) en5 fun y5 G6 H6 m6 en6 => ?_
  refine z_met2 (xs := [y0, y1, y2, y3, y4, y5]) (e_v 4) (m_met (k := 6) L.met L.tb rfl L.hmT L.hu hr (by show 6 < 8; decide) fun E A outer s Hx f c' hr' => x_call L.alike hr' takes_lam (a_cons (e_v 3) (a_cons e_str (a_cons e_str a_nil))) ⟨_, .best, .best, fam5, rok, rok, rfl, rfl⟩) m6 (by show 6 < 100; decide) en6 fun y6 G7 H7 m7 en7 => ?_
  refine z_met2 (xs := [y0, y1, y2, y3, y4, y5, y6]) (e_v 4) (m_met (k := 6) L.met L.tb rfl L.hmT L.hu hr (by show 7 < 8; decide) fun E A outer s Hx f c' hr' => x_redo L.redo L.make L.bt hr' takes_lam fam5 (e_v 3) (by rfl)) m7 (by show 7 < 100; decide) en7 fun y7 G8 H8 m8 en8 => ?_
  show wB _ (bodyRound.drop 9) _ _ _
  rw [hrest]
  exact k l [y0, y1, y2, y3, y4, y5, y6, y7] _ _ _ rfl m8 en8
end

end G9
namespace G9
open PySem PySem.Spec PyProof.Rows L2 G9S
open L2H HotX
theorem enum10 {α : Type} (g : α → D) (xs : List α) (f : Nat → α) (n : Nat) (e : xs = (List.range n).map f) : enumD (xs.map g) = (List.range n).map fun i => .tup [.int (i : Int), g (f i)] := by
  subst e
  unfold enumD
  rw [List.length_map, List.length_map, List.length_range]
  refine List.map_congr_left fun i hi => ?_
  rw [List.getD_eq_getElem?_getD, List.getElem?_map, List.getElem?_map, List.getElem?_range (List.mem_range.mp hi)]
  rfl
theorem nd_ix10 {as : List Addr} (h : as.Nodup) {i j : Nat} {x : Addr} (hi : as[i]? = some x) (hj : as[j]? = some x) : i = j := by
  obtain ⟨h1, e1⟩ := List.getElem?_eq_some_iff.mp hi
  obtain ⟨h2, e2⟩ := List.getElem?_eq_some_iff.mp hj
  exact (List.getElem_inj h).mp (e1.trans e2.symm)
section
variable {P : Program} {w : World} {K : PySem.W.Frag} {mg : Str → Option Value} {base : Heap}
variable {A : Around} {outer : List Env} {s : Shared} {Hx : Hp} {E : XK} {f0 : Addr} {Hs G H : Hp} {a : Addr} {σ : L2.St} {N : Ends} {T : Tbs} {C : Addr} {c : Nat → Addr} {g CS cc P0 : Addr} {fdt : FuncData}
theorem rpL_refs {K : PySem.W.Frag} {G : Hp} : ∀ xs : List Addr, RpL K G (xs.map V.ref) (xs.map D.ref)
  | [] => .nil
  | x :: xs => .cons (.ref x) (rpL_refs xs)
theorem e_allL {X : Cx} {H0 : Hp} {ρ : Ro} {e : Expr} {bs : List Bool} {p pos : Pos} (B : Blt X.mg) (h : Ev X H0 ρ e (.lst (bs.map D.bl))) (hc : X.calm = true := by rfl) (hg : Gl X "all" := by rfl) (he : starEach [e] X.env = (false, eval e X.env) :: starEach [] X.env := by rfl) (hpl : (backTo pos (starEach [] X.env)).any (·.1) = false := by rfl) : Ev X H0 ρ (.Call (.Name "all" p) [e] [] pos) (.bl (bs.all id)) :=
  e_callB (cr_all hc) B.all_ (a_cons h a_nil he) rc_all (by decide +kernel) hg (by decide) (by decide) he hpl
theorem round10 (L : LW10 P w K mg base C c g CS fdt cc P0 T) (hr : Room 8 (A.deeper (envOfC "law" (defScope s_law) s.heap.objs.size f0 (.ref cc)))) (wz : Wz T Hs a G H) (hlen : σ.length = 7) (hσ : σ[1]? = some (some (.ref a)))
    (done : ∀ G' H' σ', Wz T Hs a G' H' → σ'.length = 7 → N.nx σ' H') : wB (cx10 P w K mg base f0 (.ref cc) A outer s Hx E) bodyRound N σ H := by
  have hN : N10.Nodup := sc_law.nd
  have B := L.B
  have hr1 := hr.mono (show 1 ≤ 8 by decide)
  have hr2 := hr.mono (show 2 ≤ 8 by decide)
  have en0 : En K G σ [none, some (.ref a), none, none, none, none, none] := ⟨hlen, fun i d e => by
    match i, e with
    | 0, e => cases e
    | 1, e => cases e; exact ⟨_, hσ, .ref a⟩
    | i + 2, e =>
      have : ([none, none, none, none, none] : Ro)[i]? = some (some d) := e
      have h2 := List.mem_of_getElem? this
      simp at h2⟩
  refine z_tup2 (P := fun d1 d2 => (∃ r : Int, d1 = .int (10 + r) ∧ 0 ≤ r ∧ r < 90) ∧ d2 = dFam 5 [[0, 1, 2, 3, 4]]) 2 3 (p_cons (P1 := fun d => ∃ r : Int, d = .int (10 + r) ∧ 0 ≤ r ∧ r < 90) (p_op op_add (p_of e_int) (p_roll 1 L.roll hr2 (p_of e_int) (by decide)) fun da db h1 h2 => by
      obtain ⟨r, rfl, h3, h4⟩ := h2
      subst h1
      exact ⟨_, ⟨r, rfl, h3, h4⟩, rd_i⟩) (p_cons (P1 := (· = dFam 5 [[0, 1, 2, 3, 4]])) (P := (· = [dFam 5 [[0, 1, 2, 3, 4]]])) (p_of (e_tup (ds := [.int 5, dF [[0, 1, 2, 3, 4]]]) (a_cons e_int (a_cons (e_tup (ds := [dS [0, 1, 2, 3, 4]]) (a_cons (e_tup (ds := [.int 0, .int 1, .int 2, .int 3, .int 4]) (a_cons e_int (a_cons e_int (a_cons e_int (a_cons e_int (a_cons e_int a_nil))))) (by show 5 ≤ 100000; decide)) a_nil) (by show 1 ≤ 100000; decide)) a_nil)) (by show 2 ≤ 100000; decide))) p_nil fun d ds h1 h2 => by rw [h1, h2]) fun d ds h1 h2 => by
      subst h2
      exact ⟨d, _, rfl, h1, rfl⟩) wz en0 fun d1 d2 hd σ1 G1 H1 f1 w1 en1 => ?_
  obtain ⟨⟨r, rfl, r0, r9⟩, rfl⟩ := hd
  obtain ⟨r9', h9⟩ : ∃ r, bodyRound.drop 9 = r := ⟨_, rfl⟩
  refine mets10 L hr w1 (gr := 10 + r) (by omega) (by omega) h9 en1 fun l xs σ2 G2 H2 hx m2 en2 => ?_
  rw [← h9]
  -- what is held
  obtain ⟨H0, hH0⟩ : ∃ H0 : Hp, H0 = fun b => if b ∈ xs then H2 b else none := ⟨_, rfl⟩
  have s0 : Same H0 H2 := fun b o e => by
    rw [hH0] at e
    have e : (if b ∈ xs then H2 b else none) = some o := e
    split at e
    · exact e
    · cases e
  have at0 : ∀ (j : Nat) (x : Addr), xs[j]? = some x → H0 x = some (ExR (.ref (c j)) x) := fun j x e => by
    rw [hH0]
    show (if x ∈ xs then H2 x else none) = _
    rw [if_pos (List.mem_of_getElem? e)]
    exact m2.ex j x e
  -- the list is leant on
  have sL := same_show m2.w.s m2.hl
  have wL : Wz T Hs a (upd G2 l (.lst (xs.map V.ref))) H2 := ⟨sL, by rw [upd_ne (Ne.symm m2.la)]; exact m2.w.ga, m2.w.da, m2.w.tb, m2.w.fr⟩
  have enL : En K (upd G2 l (.lst (xs.map V.ref))) σ2 (ro10 a (10 + r) (some (.lst (xs.map D.ref))) none none) := by
    have up := en2.up (Same.new (o := .lst (xs.map V.ref)) m2.gl)
    refine ⟨up.len, fun i d q => ?_⟩
    by_cases hi : i = 4
    · subst hi
      cases q
      obtain ⟨v, h1, h2⟩ := up.at_ 4 (.ref l) rfl
      refine ⟨v, h1, ?_⟩
      rw [h2.ref_of]
      exact .lst upd_same (rpL_refs xs)
    · refine up.at_ i d ?_
      match i, q, hi with
      | 0, q, _ => exact q
      | 1, q, _ => exact q
      | 2, q, _ => exact q
      | 3, q, _ => exact q
      | 4, q, hi => exact absurd rfl hi
      | 5, q, _ => exact q
      | 6, q, _ => exact q
      | i + 7, q, _ => exact q
  have src : enumD (xs.map D.ref) = (List.range 8).map fun i => .tup [.int (i : Int), .ref (xs.getD i 0)] := enum10 D.ref xs (fun i => xs.getD i 0) 8 (by
    refine List.ext_getElem? fun i => ?_
    rw [List.getElem?_map]
    by_cases hi : i < 8
    · rw [List.getElem?_range hi, List.getElem?_eq_getElem (by omega)]
      show some xs[i] = some (xs.getD i 0)
      rw [List.getD_eq_getElem?_getD, List.getElem?_eq_getElem (by omega)]
      rfl
    · rw [List.getElem?_eq_none (by omega), List.getElem?_eq_none (by rw [List.length_range]; omega)]
      rfl)
  have hM : ((List.range 8).filter fun _ => true).map (fun i : Nat => D.bl (decide (i = i))) = ((List.range 8).map fun _ => true).map D.bl := by
    rw [List.filter_eq_self.mpr (fun _ _ => rfl), List.map_map]
    exact List.map_congr_left fun i _ => by show D.bl (decide (i = i)) = D.bl true; rw [decide_eq_true rfl]
  refine z_passH (H0 := H0) (EvT.is (t_not (k := true) (t_val ?_)) rfl) s0 wL enL fun G3 H3 f3 w3 en3 => wB_nil (done _ _ _ w3 en3.len)
  refine Ev.is (e_allL B (bs := (List.range 8).map fun _ => true) (Ev.is (l_lc2 6 5 (fun i : Nat => (D.int (i : Int), D.ref (xs.getD i 0))) (List.range 8) (fun _ => true) (fun i => D.bl (decide (i = i))) ((i_enumL B.enumerate_ (e_v 4)).is src) (by decide) (fun i hi _ _ _ _ _ => ts_nil) ?_).ev (congrArg D.lst hM))) rfl
  intro i hi _ _ _ _ _ _
  have hi := List.mem_range.mp hi
  exact e_alone L.alone hr1 hi (at0 i (xs.getD i 0) (by rw [List.getD_eq_getElem?_getD, List.getElem?_eq_getElem (by omega)]; rfl)) (e_v 5) (e_v 6)
end

end G9
namespace G9
open PySem PySem.Spec PyProof.Rows L2 G9S
open L2H HotX
section
variable {P : Program} {w : World} {K : PySem.W.Frag} {mg : Str → Option Value} {base : Heap}
variable {A : Around} {outer : List Env} {s : Shared} {Hx : Hp} {E : XK} {f0 : Addr} {Hs G H : Hp} {a : Addr} {σ : L2.St} {N : Ends} {T : Tbs} {C : Addr} {c : Nat → Addr} {g CS cc P0 : Addr} {fdt : FuncData}
/-! ### the law -/
def spLaw10 (K : PySem.W.Frag) (T : Tbs) : Sp := fun vs H Q _ => ∃ (sc : Addr) (ns : List Int), vs = [.ref sc] ∧ SqL K H sc (ns.map V.int) ∧ ns.length ≤ 63 ∧ (∀ x ∈ T, H x.1 = some (.tbl #[])) ∧ ∀ H', Q (.bl true) H'
theorem ok_law10 {oc kV doc pm ct : Value} {od an : Option Addr} {osl : Array (Option Value)} (lk : K.lookup f0 = some ⟨oc, od, .func (PySem.W.fnOf "law" "law" (defArgs s_law) (defBody s_law) (defScope s_law) .none kV doc pm an (.ref cc) ct), osl⟩) (hcd : PySem.W.codeIn K (.ref cc) "law" = true)
    (L : LW10 P w K mg base C c g CS fdt cc P0 T) : FnOk P w K mg base CX0 9 f0 (PySem.W.fnOf "law" "law" (defArgs s_law) (defBody s_law) (defScope s_law) .none kV doc pm an (.ref cc) ct) ["script"] (spLaw10 K T) := by
  refine okC lk hcd sc_law (fun vs H Q E h => by obtain ⟨sc, ns, rfl, _⟩ := h; rfl) fun A outer s H E vs Q hr h => ?_
  obtain ⟨sc, ns, rfl, hs, hl, hP, q⟩ := h
  have hN : N10.Nodup := sc_law.nd
  have hr2 := hr.mono (show 2 ≤ 8 by decide)
  have tb0 : LamX.Tabs T H := fun x hx => LamX.TabS.nil (hP x hx)
  obtain ⟨fr, fdr, psr, CXr, Fr1, hmr, hkr, hbr, hxr⟩ := L.rounds.ex
  refine wB_cons (wS_of (ps_for PassesOwn.never rfl (pi_list (pe_call Fr1 hr2 rfl hmr hkr hbr .nil (hxr _ rfl rfl) (pa_cons (pv 0) (pa_cons pe_int pa_nil)))) (pg_name (i := 1) hN rfl (by first | exact Or.inl rfl | exact Or.inr rfl)) pbw) ?_)
  refine ⟨_, rfl, sc, ns, 4, rfl, hs, hl, by decide, by decide, fun lr as H1 s1 hlr hlr1 nd dies => ⟨lr, rfl, ⟨_, SqL.of hlr1⟩, ?_⟩⟩
  refine for_list (K := K) (a := lr) (xs := as.map V.ref) (fun i σ' H' => σ'.length = 7 ∧ H' lr = some (.lst (as.map V.ref)) ∧ LamX.Tabs T H' ∧ ∀ j x, i ≤ j → as[j]? = some x → Die H' x)
    ⟨rfl, hlr1, tb0.ext s1, fun j x _ e => (dies x (List.mem_of_getElem? e)).2.2⟩ (fun i σ' H' _ ⟨_, e, _⟩ => SqL.of e) (fun i y σ' H' hy ⟨e1, e2, e3, e4⟩ => ?_) fun σ' H' _ => ?_
  · obtain ⟨a, ha, rfl⟩ : ∃ a, as[i]? = some a ∧ y = V.ref a := by
      rw [List.getElem?_map] at hy
      cases e : as[i]? with
      | none => rw [e] at hy; cases hy
      | some a =>
        rw [e] at hy
        exact ⟨a, rfl, (Option.some.inj hy).symm⟩
    show wB _ _ _ _ _
    refine round10 (G := Nil) (Hs := H') (a := a) L hr ⟨same_nil, rfl, e4 i a (Nat.le_refl i) ha, e3, fun c o _ _ h => h⟩ (by rw [List.length_set]; exact e1) (List.getElem?_set_self (by rw [e1]; decide)) fun G2 H2 σ2 w2 l2 => ⟨l2, w2.fr lr _ (Ne.symm (dies a (List.mem_of_getElem? ha)).2.1) (fun _ z => nomatch z) e2, w2.tb, fun j x hj hx => ?_⟩
    have hne : x ≠ a := fun z => by
      have := nd_ix10 nd hx (z ▸ ha)
      omega
    obtain ⟨u, v, hd⟩ := e4 j x (by omega) hx
    exact ⟨u, v, w2.fr x _ hne (fun _ z => nomatch z) hd⟩
  · show wB _ _ _ _ _
    exact wB_cons (wS_of (ps_ret pe_bl) (q _))
end

end G9
namespace G9
open PySem PySem.Spec PyProof.Rows L2 G9S
open L2H HotX
theorem all_mk {l : PySem.W.OpenLaw} {w : World} {K : PySem.W.Frag} {h : Heap} {mg : Str → Option Value} {fa : Addr} {f_is_whole_ : Addr} {od_is_whole an_is_whole : Option Addr} {sl_is_whole : Array (Option Value)} {oc_is_whole kV_is_whole dc_is_whole pm_is_whole ct_is_whole cd_is_whole : Value}
    {f_within_ : Addr} {od_within an_within : Option Addr} {sl_within : Array (Option Value)} {oc_within kV_within dc_within pm_within ct_within cd_within : Value}
    {f_greatest_in_ : Addr} {od_greatest_in an_greatest_in : Option Addr} {sl_greatest_in : Array (Option Value)} {oc_greatest_in kV_greatest_in dc_greatest_in pm_greatest_in ct_greatest_in cd_greatest_in : Value}
    {f_is_set_ : Addr} {od_is_set an_is_set : Option Addr} {sl_is_set : Array (Option Value)} {oc_is_set kV_is_set dc_is_set pm_is_set ct_is_set cd_is_set : Value}
    {f_is_family_ : Addr} {od_is_family an_is_family : Option Addr} {sl_is_family : Array (Option Value)} {oc_is_family kV_is_family dc_is_family pm_is_family ct_is_family cd_is_family : Value}
    {f_need_family_ : Addr} {od_need_family an_need_family : Option Addr} {sl_need_family : Array (Option Value)} {oc_need_family kV_need_family dc_need_family pm_need_family ct_need_family cd_need_family : Value}
    {f_form_ : Addr} {od_form an_form : Option Addr} {sl_form : Array (Option Value)} {oc_form kV_form dc_form pm_form ct_form cd_form : Value}
    {f_is_rule_for_ : Addr} {od_is_rule_for an_is_rule_for : Option Addr} {sl_is_rule_for : Array (Option Value)} {oc_is_rule_for kV_is_rule_for dc_is_rule_for pm_is_rule_for ct_is_rule_for cd_is_rule_for : Value}
    {f_need_rule_ : Addr} {od_need_rule an_need_rule : Option Addr} {sl_need_rule : Array (Option Value)} {oc_need_rule kV_need_rule dc_need_rule pm_need_rule ct_need_rule cd_need_rule : Value}
    {f_is_worths_for_ : Addr} {od_is_worths_for an_is_worths_for : Option Addr} {sl_is_worths_for : Array (Option Value)} {oc_is_worths_for kV_is_worths_for dc_is_worths_for pm_is_worths_for ct_is_worths_for cd_is_worths_for : Value}
    {f_need_worths_ : Addr} {od_need_worths an_need_worths : Option Addr} {sl_need_worths : Array (Option Value)} {oc_need_worths kV_need_worths dc_need_worths pm_need_worths ct_need_worths cd_need_worths : Value}
    {f_pick_ : Addr} {od_pick an_pick : Option Addr} {sl_pick : Array (Option Value)} {oc_pick kV_pick dc_pick pm_pick ct_pick cd_pick : Value}
    {f_best_set_ : Addr} {od_best_set an_best_set : Option Addr} {sl_best_set : Array (Option Value)} {oc_best_set kV_best_set dc_best_set pm_best_set ct_best_set cd_best_set : Value}
    {f_divisor_ : Addr} {od_divisor an_divisor : Option Addr} {sl_divisor : Array (Option Value)} {oc_divisor kV_divisor dc_divisor pm_divisor ct_divisor cd_divisor : Value}
    {f_is_share_ : Addr} {od_is_share an_is_share : Option Addr} {sl_is_share : Array (Option Value)} {oc_is_share kV_is_share dc_is_share pm_is_share ct_is_share cd_is_share : Value}
    {f_low_worths_ : Addr} {od_low_worths an_low_worths : Option Addr} {sl_low_worths : Array (Option Value)} {oc_low_worths kV_low_worths dc_low_worths pm_low_worths ct_low_worths cd_low_worths : Value}
    {f_families_of_ : Addr} {od_families_of an_families_of : Option Addr} {sl_families_of : Array (Option Value)} {oc_families_of kV_families_of dc_families_of pm_families_of ct_families_of cd_families_of : Value}
    {f_written_ : Addr} {od_written an_written : Option Addr} {sl_written : Array (Option Value)} {oc_written kV_written dc_written pm_written ct_written cd_written : Value}
    {f_parse_family_ : Addr} {od_parse_family an_parse_family : Option Addr} {sl_parse_family : Array (Option Value)} {oc_parse_family kV_parse_family dc_parse_family pm_parse_family ct_parse_family cd_parse_family : Value}
    {f_need_all_ : Addr} {od_need_all an_need_all : Option Addr} {sl_need_all : Array (Option Value)} {oc_need_all kV_need_all dc_need_all pm_need_all ct_need_all cd_need_all : Value}
    {f_alike_ : Addr} {od_alike an_alike : Option Addr} {sl_alike : Array (Option Value)} {oc_alike kV_alike dc_alike pm_alike ct_alike cd_alike : Value}
    {f_law_drawn_ : Addr} {od_law_drawn an_law_drawn : Option Addr} {sl_law_drawn : Array (Option Value)} {oc_law_drawn kV_law_drawn dc_law_drawn pm_law_drawn ct_law_drawn cd_law_drawn : Value}
    {f_law_roll_ : Addr} {od_law_roll an_law_roll : Option Addr} {sl_law_roll : Array (Option Value)} {oc_law_roll kV_law_roll dc_law_roll pm_law_roll ct_law_roll cd_law_roll : Value}
    {f_law_cell_ : Addr} {od_law_cell an_law_cell : Option Addr} {sl_law_cell : Array (Option Value)} {oc_law_cell kV_law_cell dc_law_cell pm_law_cell ct_law_cell cd_law_cell : Value}
    {f_law_rounds_ : Addr} {od_law_rounds an_law_rounds : Option Addr} {sl_law_rounds : Array (Option Value)} {oc_law_rounds kV_law_rounds dc_law_rounds pm_law_rounds ct_law_rounds cd_law_rounds : Value}
    {f_law_met_ : Addr} {od_law_met an_law_met : Option Addr} {sl_law_met : Array (Option Value)} {oc_law_met kV_law_met dc_law_met pm_law_met ct_law_met cd_law_met : Value}
    {f_law_alone_ : Addr} {od_law_alone an_law_alone : Option Addr} {sl_law_alone : Array (Option Value)} {oc_law_alone kV_law_alone dc_law_alone pm_law_alone ct_law_alone cd_law_alone : Value}
    {C : Addr}
    {f_m_redo_ : Addr} {od_m_redo an_m_redo : Option Addr} {sl_m_redo : Array (Option Value)} {oc_m_redo kV_m_redo dc_m_redo pm_m_redo ct_m_redo cd_m_redo : Value}
    {f_m_init_ : Addr} {od_m_init an_m_init : Option Addr} {sl_m_init : Array (Option Value)} {oc_m_init kV_m_init dc_m_init pm_m_init ct_m_init cd_m_init : Value}
    {c0 c1 c2 c3 c4 c5 c6 c7 : Addr}
    {C_PickError : Addr}
    {t_MOST_THINGS : Tok}
    {t_MOST_WORTH : Tok}
    {t_MOST_COMPARED : Tok}
    {aPL : Addr} {odPL : Option Addr} {t1PL t2PL t3PL : Tok} {nPL : Nat} {slPL : Array (Option Value)}
    {f_law_ : Addr} {od_law an_law : Option Addr} {sl_law : Array (Option Value)} {oc_law kV_law dc_law pm_law ct_law : Value}
    {c_law_ P_law : Addr}
    (X : K.In h) (G : h.Ns mainGlobals mg) (hfa : mg "law" = some (.ref fa))
    (a_is_whole : PySem.W.nsIn K mainGlobals "is_whole" = some (some (.ref f_is_whole_)))
    (l_is_whole : K.lookup f_is_whole_ = some ⟨oc_is_whole, od_is_whole, .func (PySem.W.fnOf "is_whole" "is_whole" (defArgs s_is_whole) (defBody s_is_whole) (defScope s_is_whole) .none kV_is_whole dc_is_whole pm_is_whole an_is_whole cd_is_whole ct_is_whole), sl_is_whole⟩)
    (c_is_whole : PySem.W.codeIn K cd_is_whole "is_whole" = true)
    (k_is_whole : PySem.W.keepIn K (.ref f_is_whole_) = true)
    (a_within : PySem.W.nsIn K mainGlobals "within" = some (some (.ref f_within_)))
    (l_within : K.lookup f_within_ = some ⟨oc_within, od_within, .func (PySem.W.fnOf "within" "within" (defArgs s_within) (defBody s_within) (defScope s_within) .none kV_within dc_within pm_within an_within cd_within ct_within), sl_within⟩)
    (c_within : PySem.W.codeIn K cd_within "within" = true)
    (k_within : PySem.W.keepIn K (.ref f_within_) = true)
    (a_greatest_in : PySem.W.nsIn K mainGlobals "greatest_in" = some (some (.ref f_greatest_in_)))
    (l_greatest_in : K.lookup f_greatest_in_ = some ⟨oc_greatest_in, od_greatest_in, .func (PySem.W.fnOf "greatest_in" "greatest_in" (defArgs s_greatest_in) (defBody s_greatest_in) (defScope s_greatest_in) .none kV_greatest_in dc_greatest_in pm_greatest_in an_greatest_in cd_greatest_in ct_greatest_in), sl_greatest_in⟩)
    (c_greatest_in : PySem.W.codeIn K cd_greatest_in "greatest_in" = true)
    (k_greatest_in : PySem.W.keepIn K (.ref f_greatest_in_) = true)
    (a_is_set : PySem.W.nsIn K mainGlobals "is_set" = some (some (.ref f_is_set_)))
    (l_is_set : K.lookup f_is_set_ = some ⟨oc_is_set, od_is_set, .func (PySem.W.fnOf "is_set" "is_set" (defArgs s_is_set) (defBody s_is_set) (defScope s_is_set) .none kV_is_set dc_is_set pm_is_set an_is_set cd_is_set ct_is_set), sl_is_set⟩)
    (c_is_set : PySem.W.codeIn K cd_is_set "is_set" = true)
    (k_is_set : PySem.W.keepIn K (.ref f_is_set_) = true)
    (a_is_family : PySem.W.nsIn K mainGlobals "is_family" = some (some (.ref f_is_family_)))
    (l_is_family : K.lookup f_is_family_ = some ⟨oc_is_family, od_is_family, .func (PySem.W.fnOf "is_family" "is_family" (defArgs s_is_family) (defBody s_is_family) (defScope s_is_family) .none kV_is_family dc_is_family pm_is_family an_is_family cd_is_family ct_is_family), sl_is_family⟩)
    (c_is_family : PySem.W.codeIn K cd_is_family "is_family" = true)
    (k_is_family : PySem.W.keepIn K (.ref f_is_family_) = true)
    (a_need_family : PySem.W.nsIn K mainGlobals "need_family" = some (some (.ref f_need_family_)))
    (l_need_family : K.lookup f_need_family_ = some ⟨oc_need_family, od_need_family, .func (PySem.W.fnOf "need_family" "need_family" (defArgs s_need_family) (defBody s_need_family) (defScope s_need_family) .none kV_need_family dc_need_family pm_need_family an_need_family cd_need_family ct_need_family), sl_need_family⟩)
    (c_need_family : PySem.W.codeIn K cd_need_family "need_family" = true)
    (k_need_family : PySem.W.keepIn K (.ref f_need_family_) = true)
    (a_form : PySem.W.nsIn K mainGlobals "form" = some (some (.ref f_form_)))
    (l_form : K.lookup f_form_ = some ⟨oc_form, od_form, .func (PySem.W.fnOf "form" "form" (defArgs s_form) (defBody s_form) (defScope s_form) .none kV_form dc_form pm_form an_form cd_form ct_form), sl_form⟩)
    (c_form : PySem.W.codeIn K cd_form "form" = true)
    (k_form : PySem.W.keepIn K (.ref f_form_) = true)
    (a_is_rule_for : PySem.W.nsIn K mainGlobals "is_rule_for" = some (some (.ref f_is_rule_for_)))
    (l_is_rule_for : K.lookup f_is_rule_for_ = some ⟨oc_is_rule_for, od_is_rule_for, .func (PySem.W.fnOf "is_rule_for" "is_rule_for" (defArgs s_is_rule_for) (defBody s_is_rule_for) (defScope s_is_rule_for) .none kV_is_rule_for dc_is_rule_for pm_is_rule_for an_is_rule_for cd_is_rule_for ct_is_rule_for), sl_is_rule_for⟩)
    (c_is_rule_for : PySem.W.codeIn K cd_is_rule_for "is_rule_for" = true)
    (k_is_rule_for : PySem.W.keepIn K (.ref f_is_rule_for_) = true)
    (a_need_rule : PySem.W.nsIn K mainGlobals "need_rule" = some (some (.ref f_need_rule_)))
    (l_need_rule : K.lookup f_need_rule_ = some ⟨oc_need_rule, od_need_rule, .func (PySem.W.fnOf "need_rule" "need_rule" (defArgs s_need_rule) (defBody s_need_rule) (defScope s_need_rule) .none kV_need_rule dc_need_rule pm_need_rule an_need_rule cd_need_rule ct_need_rule), sl_need_rule⟩)
    (c_need_rule : PySem.W.codeIn K cd_need_rule "need_rule" = true)
    (k_need_rule : PySem.W.keepIn K (.ref f_need_rule_) = true)
    (a_is_worths_for : PySem.W.nsIn K mainGlobals "is_worths_for" = some (some (.ref f_is_worths_for_)))
    (l_is_worths_for : K.lookup f_is_worths_for_ = some ⟨oc_is_worths_for, od_is_worths_for, .func (PySem.W.fnOf "is_worths_for" "is_worths_for" (defArgs s_is_worths_for) (defBody s_is_worths_for) (defScope s_is_worths_for) .none kV_is_worths_for dc_is_worths_for pm_is_worths_for an_is_worths_for cd_is_worths_for ct_is_worths_for), sl_is_worths_for⟩)
    (c_is_worths_for : PySem.W.codeIn K cd_is_worths_for "is_worths_for" = true)
    (k_is_worths_for : PySem.W.keepIn K (.ref f_is_worths_for_) = true)
    (a_need_worths : PySem.W.nsIn K mainGlobals "need_worths" = some (some (.ref f_need_worths_)))
    (l_need_worths : K.lookup f_need_worths_ = some ⟨oc_need_worths, od_need_worths, .func (PySem.W.fnOf "need_worths" "need_worths" (defArgs s_need_worths) (defBody s_need_worths) (defScope s_need_worths) .none kV_need_worths dc_need_worths pm_need_worths an_need_worths cd_need_worths ct_need_worths), sl_need_worths⟩)
    (c_need_worths : PySem.W.codeIn K cd_need_worths "need_worths" = true)
    (k_need_worths : PySem.W.keepIn K (.ref f_need_worths_) = true)
    (a_pick : PySem.W.nsIn K mainGlobals "pick" = some (some (.ref f_pick_)))
    (l_pick : K.lookup f_pick_ = some ⟨oc_pick, od_pick, .func (PySem.W.fnOf "pick" "pick" (defArgs s_pick) (defBody s_pick) (defScope s_pick) .none kV_pick dc_pick pm_pick an_pick cd_pick ct_pick), sl_pick⟩)
    (c_pick : PySem.W.codeIn K cd_pick "pick" = true)
    (k_pick : PySem.W.keepIn K (.ref f_pick_) = true)
    (a_best_set : PySem.W.nsIn K mainGlobals "best_set" = some (some (.ref f_best_set_)))
    (l_best_set : K.lookup f_best_set_ = some ⟨oc_best_set, od_best_set, .func (PySem.W.fnOf "best_set" "best_set" (defArgs s_best_set) (defBody s_best_set) (defScope s_best_set) .none kV_best_set dc_best_set pm_best_set an_best_set cd_best_set ct_best_set), sl_best_set⟩)
    (c_best_set : PySem.W.codeIn K cd_best_set "best_set" = true)
    (k_best_set : PySem.W.keepIn K (.ref f_best_set_) = true)
    (a_divisor : PySem.W.nsIn K mainGlobals "divisor" = some (some (.ref f_divisor_)))
    (l_divisor : K.lookup f_divisor_ = some ⟨oc_divisor, od_divisor, .func (PySem.W.fnOf "divisor" "divisor" (defArgs s_divisor) (defBody s_divisor) (defScope s_divisor) .none kV_divisor dc_divisor pm_divisor an_divisor cd_divisor ct_divisor), sl_divisor⟩)
    (c_divisor : PySem.W.codeIn K cd_divisor "divisor" = true)
    (k_divisor : PySem.W.keepIn K (.ref f_divisor_) = true)
    (a_is_share : PySem.W.nsIn K mainGlobals "is_share" = some (some (.ref f_is_share_)))
    (l_is_share : K.lookup f_is_share_ = some ⟨oc_is_share, od_is_share, .func (PySem.W.fnOf "is_share" "is_share" (defArgs s_is_share) (defBody s_is_share) (defScope s_is_share) .none kV_is_share dc_is_share pm_is_share an_is_share cd_is_share ct_is_share), sl_is_share⟩)
    (c_is_share : PySem.W.codeIn K cd_is_share "is_share" = true)
    (k_is_share : PySem.W.keepIn K (.ref f_is_share_) = true)
    (a_low_worths : PySem.W.nsIn K mainGlobals "low_worths" = some (some (.ref f_low_worths_)))
    (l_low_worths : K.lookup f_low_worths_ = some ⟨oc_low_worths, od_low_worths, .func (PySem.W.fnOf "low_worths" "low_worths" (defArgs s_low_worths) (defBody s_low_worths) (defScope s_low_worths) .none kV_low_worths dc_low_worths pm_low_worths an_low_worths cd_low_worths ct_low_worths), sl_low_worths⟩)
    (c_low_worths : PySem.W.codeIn K cd_low_worths "low_worths" = true)
    (k_low_worths : PySem.W.keepIn K (.ref f_low_worths_) = true)
    (a_families_of : PySem.W.nsIn K mainGlobals "families_of" = some (some (.ref f_families_of_)))
    (l_families_of : K.lookup f_families_of_ = some ⟨oc_families_of, od_families_of, .func (PySem.W.fnOf "families_of" "families_of" (defArgs s_families_of) (defBody s_families_of) (defScope s_families_of) .none kV_families_of dc_families_of pm_families_of an_families_of cd_families_of ct_families_of), sl_families_of⟩)
    (c_families_of : PySem.W.codeIn K cd_families_of "families_of" = true)
    (k_families_of : PySem.W.keepIn K (.ref f_families_of_) = true)
    (a_written : PySem.W.nsIn K mainGlobals "written" = some (some (.ref f_written_)))
    (l_written : K.lookup f_written_ = some ⟨oc_written, od_written, .func (PySem.W.fnOf "written" "written" (defArgs s_written) (defBody s_written) (defScope s_written) .none kV_written dc_written pm_written an_written cd_written ct_written), sl_written⟩)
    (c_written : PySem.W.codeIn K cd_written "written" = true)
    (k_written : PySem.W.keepIn K (.ref f_written_) = true)
    (a_parse_family : PySem.W.nsIn K mainGlobals "parse_family" = some (some (.ref f_parse_family_)))
    (l_parse_family : K.lookup f_parse_family_ = some ⟨oc_parse_family, od_parse_family, .func (PySem.W.fnOf "parse_family" "parse_family" (defArgs s_parse_family) (defBody s_parse_family) (defScope s_parse_family) .none kV_parse_family dc_parse_family pm_parse_family an_parse_family cd_parse_family ct_parse_family), sl_parse_family⟩)
    (c_parse_family : PySem.W.codeIn K cd_parse_family "parse_family" = true)
    (k_parse_family : PySem.W.keepIn K (.ref f_parse_family_) = true)
    (a_need_all : PySem.W.nsIn K mainGlobals "need_all" = some (some (.ref f_need_all_)))
    (l_need_all : K.lookup f_need_all_ = some ⟨oc_need_all, od_need_all, .func (PySem.W.fnOf "need_all" "need_all" (defArgs s_need_all) (defBody s_need_all) (defScope s_need_all) .none kV_need_all dc_need_all pm_need_all an_need_all cd_need_all ct_need_all), sl_need_all⟩)
    (c_need_all : PySem.W.codeIn K cd_need_all "need_all" = true)
    (k_need_all : PySem.W.keepIn K (.ref f_need_all_) = true)
    (a_alike : PySem.W.nsIn K mainGlobals "alike" = some (some (.ref f_alike_)))
    (l_alike : K.lookup f_alike_ = some ⟨oc_alike, od_alike, .func (PySem.W.fnOf "alike" "alike" (defArgs s_alike) (defBody s_alike) (defScope s_alike) .none kV_alike dc_alike pm_alike an_alike cd_alike ct_alike), sl_alike⟩)
    (c_alike : PySem.W.codeIn K cd_alike "alike" = true)
    (k_alike : PySem.W.keepIn K (.ref f_alike_) = true)
    (a_law_drawn : PySem.W.nsIn K mainGlobals "_law_drawn" = some (some (.ref f_law_drawn_)))
    (l_law_drawn : K.lookup f_law_drawn_ = some ⟨oc_law_drawn, od_law_drawn, .func (PySem.W.fnOf "_law_drawn" "_law_drawn" (defArgs s_law_drawn) (defBody s_law_drawn) (defScope s_law_drawn) .none kV_law_drawn dc_law_drawn pm_law_drawn an_law_drawn cd_law_drawn ct_law_drawn), sl_law_drawn⟩)
    (c_law_drawn : PySem.W.codeIn K cd_law_drawn "_law_drawn" = true)
    (k_law_drawn : PySem.W.keepIn K (.ref f_law_drawn_) = true)
    (a_law_roll : PySem.W.nsIn K mainGlobals "_law_roll" = some (some (.ref f_law_roll_)))
    (l_law_roll : K.lookup f_law_roll_ = some ⟨oc_law_roll, od_law_roll, .func (PySem.W.fnOf "_law_roll" "_law_roll" (defArgs s_law_roll) (defBody s_law_roll) (defScope s_law_roll) .none kV_law_roll dc_law_roll pm_law_roll an_law_roll cd_law_roll ct_law_roll), sl_law_roll⟩)
    (c_law_roll : PySem.W.codeIn K cd_law_roll "_law_roll" = true)
    (k_law_roll : PySem.W.keepIn K (.ref f_law_roll_) = true)
    (a_law_cell : PySem.W.nsIn K mainGlobals "_law_cell" = some (some (.ref f_law_cell_)))
    (l_law_cell : K.lookup f_law_cell_ = some ⟨oc_law_cell, od_law_cell, .func (PySem.W.fnOf "_law_cell" "_law_cell" (defArgs s_law_cell) (defBody s_law_cell) (defScope s_law_cell) .none kV_law_cell dc_law_cell pm_law_cell an_law_cell cd_law_cell ct_law_cell), sl_law_cell⟩)
    (c_law_cell : PySem.W.codeIn K cd_law_cell "_law_cell" = true)
    (k_law_cell : PySem.W.keepIn K (.ref f_law_cell_) = true)
    (a_law_rounds : PySem.W.nsIn K mainGlobals "_law_rounds" = some (some (.ref f_law_rounds_)))
    (l_law_rounds : K.lookup f_law_rounds_ = some ⟨oc_law_rounds, od_law_rounds, .func (PySem.W.fnOf "_law_rounds" "_law_rounds" (defArgs s_law_rounds) (defBody s_law_rounds) (defScope s_law_rounds) .none kV_law_rounds dc_law_rounds pm_law_rounds an_law_rounds cd_law_rounds ct_law_rounds), sl_law_rounds⟩)
    (c_law_rounds : PySem.W.codeIn K cd_law_rounds "_law_rounds" = true)
    (k_law_rounds : PySem.W.keepIn K (.ref f_law_rounds_) = true)
    (a_law_met : PySem.W.nsIn K mainGlobals "_law_met" = some (some (.ref f_law_met_)))
    (l_law_met : K.lookup f_law_met_ = some ⟨oc_law_met, od_law_met, .func (PySem.W.fnOf "_law_met" "_law_met" (defArgs s_law_met) (defBody s_law_met) (defScope s_law_met) .none kV_law_met dc_law_met pm_law_met an_law_met cd_law_met ct_law_met), sl_law_met⟩)
    (c_law_met : PySem.W.codeIn K cd_law_met "_law_met" = true)
    (k_law_met : PySem.W.keepIn K (.ref f_law_met_) = true)
    (a_law_alone : PySem.W.nsIn K mainGlobals "_law_alone" = some (some (.ref f_law_alone_)))
    (l_law_alone : K.lookup f_law_alone_ = some ⟨oc_law_alone, od_law_alone, .func (PySem.W.fnOf "_law_alone" "_law_alone" (defArgs s_law_alone) (defBody s_law_alone) (defScope s_law_alone) .none kV_law_alone dc_law_alone pm_law_alone an_law_alone cd_law_alone ct_law_alone), sl_law_alone⟩)
    (c_law_alone : PySem.W.codeIn K cd_law_alone "_law_alone" = true)
    (k_law_alone : PySem.W.keepIn K (.ref f_law_alone_) = true)
    (aC : PySem.W.nsIn K mainGlobals "Basket" = some (some (.ref C)))
    (pg : PySem.W.plainGet K C Str.empty = true)
    (hd : PySem.W.hasDictIn K C = true)
    (po : PySem.W.plainOver K C = true)
    (sa : PySem.W.findIn K (.ref C) "__setattr__" = some (some (.builtin "object.__setattr__")))
    (mkB : PySem.W.makesIn K C = true)
    (kcB : PySem.W.keepIn K (.ref C) = true)
    (nF : PySem.W.findIn K (.ref C) "family" = some none)
    (nR : PySem.W.findIn K (.ref C) "rows" = some none)
    (nU : PySem.W.findIn K (.ref C) "undone" = some none)
    (a_m_redo : PySem.W.findIn K (.ref C) "redo" = some (some (.ref f_m_redo_)))
    (i_m_redo : PySem.W.isFn K (.ref f_m_redo_) = true)
    (l_m_redo : K.lookup f_m_redo_ = some ⟨oc_m_redo, od_m_redo, .func (PySem.W.fnOf "redo" "Basket.redo" (defArgs s_Basket_redo) (defBody s_Basket_redo) (defScope s_Basket_redo) .none kV_m_redo dc_m_redo pm_m_redo an_m_redo cd_m_redo ct_m_redo), sl_m_redo⟩)
    (c_m_redo : PySem.W.codeIn K cd_m_redo "Basket.redo" = true)
    (k_m_redo : PySem.W.keepIn K (.ref f_m_redo_) = true)
    (a_m_init : PySem.W.findIn K (.ref C) "__init__" = some (some (.ref f_m_init_)))
    (i_m_init : PySem.W.isFn K (.ref f_m_init_) = true)
    (l_m_init : K.lookup f_m_init_ = some ⟨oc_m_init, od_m_init, .func (PySem.W.fnOf "__init__" "Basket.__init__" (defArgs s_Basket_init) (defBody s_Basket_init) (defScope s_Basket_init) .none kV_m_init dc_m_init pm_m_init an_m_init cd_m_init ct_m_init), sl_m_init⟩)
    (c_m_init : PySem.W.codeIn K cd_m_init "Basket.__init__" = true)
    (k_m_init : PySem.W.keepIn K (.ref f_m_init_) = true)
    (g_InvalidFamily : PySem.W.nsIn K mainGlobals "InvalidFamily" = some (some (.ref c0)))
    (g_InvalidRule : PySem.W.nsIn K mainGlobals "InvalidRule" = some (some (.ref c1)))
    (g_InvalidWorths : PySem.W.nsIn K mainGlobals "InvalidWorths" = some (some (.ref c2)))
    (g_InvalidShare : PySem.W.nsIn K mainGlobals "InvalidShare" = some (some (.ref c3)))
    (g_InvalidThings : PySem.W.nsIn K mainGlobals "InvalidThings" = some (some (.ref c4)))
    (g_InvalidText : PySem.W.nsIn K mainGlobals "InvalidText" = some (some (.ref c5)))
    (g_TooMany : PySem.W.nsIn K mainGlobals "TooMany" = some (some (.ref c6)))
    (g_NothingToUndo : PySem.W.nsIn K mainGlobals "NothingToUndo" = some (some (.ref c7)))
    (q_InvalidFamily : PySem.W.excIn K c0 [.type "ValueError", .type "Exception", .type "BaseException", .type "object"] "ValueError.__new__" = true)
    (kx_InvalidFamily : PySem.W.keepIn K (.ref c0) = true)
    (sb_InvalidFamily : PySem.W.subIn K (.ref c0) (.type "BaseException") = some true)
    (ty_InvalidFamily : PySem.W.typeIn K (.ref c0) = some (.type "type"))
    (xg_InvalidFamily : PySem.W.findIn K (.ref c0) "__getattribute__" = some (some (.builtin "BaseException.__getattribute__")))
    (xk_InvalidFamily : PySem.W.findIn K (.ref c0) "__getattr__" = some none)
    (xd_InvalidFamily : PySem.W.hasDictIn K c0 = true)
    (xa_InvalidFamily : PySem.W.findIn K (.ref c0) "__class__" = some (some (.builtin "object.__class__")))
    (xm_InvalidFamily : PySem.W.mroIn K c0 (.type "object") = some true)
    (em_InvalidFamily : PySem.W.exmOne K (.ref c0) (.ref C_PickError) = some true)
    (kv_InvalidFamily : PySem.W.kitOne K (.ref c0) (.type "ValueError") = some true)
    (ko_0_0 : PySem.W.kitOne K (.ref c0) (.ref c0) = some true)
    (ko_0_1 : PySem.W.kitOne K (.ref c0) (.ref c1) = some false)
    (ko_0_2 : PySem.W.kitOne K (.ref c0) (.ref c2) = some false)
    (ko_0_3 : PySem.W.kitOne K (.ref c0) (.ref c3) = some false)
    (ko_0_4 : PySem.W.kitOne K (.ref c0) (.ref c4) = some false)
    (ko_0_5 : PySem.W.kitOne K (.ref c0) (.ref c5) = some false)
    (ko_0_6 : PySem.W.kitOne K (.ref c0) (.ref c6) = some false)
    (ko_0_7 : PySem.W.kitOne K (.ref c0) (.ref c7) = some false)
    (q_InvalidRule : PySem.W.excIn K c1 [.type "ValueError", .type "Exception", .type "BaseException", .type "object"] "ValueError.__new__" = true)
    (kx_InvalidRule : PySem.W.keepIn K (.ref c1) = true)
    (sb_InvalidRule : PySem.W.subIn K (.ref c1) (.type "BaseException") = some true)
    (ty_InvalidRule : PySem.W.typeIn K (.ref c1) = some (.type "type"))
    (xg_InvalidRule : PySem.W.findIn K (.ref c1) "__getattribute__" = some (some (.builtin "BaseException.__getattribute__")))
    (xk_InvalidRule : PySem.W.findIn K (.ref c1) "__getattr__" = some none)
    (xd_InvalidRule : PySem.W.hasDictIn K c1 = true)
    (xa_InvalidRule : PySem.W.findIn K (.ref c1) "__class__" = some (some (.builtin "object.__class__")))
    (xm_InvalidRule : PySem.W.mroIn K c1 (.type "object") = some true)
    (em_InvalidRule : PySem.W.exmOne K (.ref c1) (.ref C_PickError) = some true)
    (kv_InvalidRule : PySem.W.kitOne K (.ref c1) (.type "ValueError") = some true)
    (ko_1_0 : PySem.W.kitOne K (.ref c1) (.ref c0) = some false)
    (ko_1_1 : PySem.W.kitOne K (.ref c1) (.ref c1) = some true)
    (ko_1_2 : PySem.W.kitOne K (.ref c1) (.ref c2) = some false)
    (ko_1_3 : PySem.W.kitOne K (.ref c1) (.ref c3) = some false)
    (ko_1_4 : PySem.W.kitOne K (.ref c1) (.ref c4) = some false)
    (ko_1_5 : PySem.W.kitOne K (.ref c1) (.ref c5) = some false)
    (ko_1_6 : PySem.W.kitOne K (.ref c1) (.ref c6) = some false)
    (ko_1_7 : PySem.W.kitOne K (.ref c1) (.ref c7) = some false)
    (q_InvalidWorths : PySem.W.excIn K c2 [.type "ValueError", .type "Exception", .type "BaseException", .type "object"] "ValueError.__new__" = true)
    (kx_InvalidWorths : PySem.W.keepIn K (.ref c2) = true)
    (sb_InvalidWorths : PySem.W.subIn K (.ref c2) (.type "BaseException") = some true)
    (ty_InvalidWorths : PySem.W.typeIn K (.ref c2) = some (.type "type"))
    (xg_InvalidWorths : PySem.W.findIn K (.ref c2) "__getattribute__" = some (some (.builtin "BaseException.__getattribute__")))
    (xk_InvalidWorths : PySem.W.findIn K (.ref c2) "__getattr__" = some none)
    (xd_InvalidWorths : PySem.W.hasDictIn K c2 = true)
    (xa_InvalidWorths : PySem.W.findIn K (.ref c2) "__class__" = some (some (.builtin "object.__class__")))
    (xm_InvalidWorths : PySem.W.mroIn K c2 (.type "object") = some true)
    (em_InvalidWorths : PySem.W.exmOne K (.ref c2) (.ref C_PickError) = some true)
    (kv_InvalidWorths : PySem.W.kitOne K (.ref c2) (.type "ValueError") = some true)
    (ko_2_0 : PySem.W.kitOne K (.ref c2) (.ref c0) = some false)
    (ko_2_1 : PySem.W.kitOne K (.ref c2) (.ref c1) = some false)
    (ko_2_2 : PySem.W.kitOne K (.ref c2) (.ref c2) = some true)
    (ko_2_3 : PySem.W.kitOne K (.ref c2) (.ref c3) = some false)
    (ko_2_4 : PySem.W.kitOne K (.ref c2) (.ref c4) = some false)
    (ko_2_5 : PySem.W.kitOne K (.ref c2) (.ref c5) = some false)
    (ko_2_6 : PySem.W.kitOne K (.ref c2) (.ref c6) = some false)
    (ko_2_7 : PySem.W.kitOne K (.ref c2) (.ref c7) = some false)
    (q_InvalidShare : PySem.W.excIn K c3 [.type "ValueError", .type "Exception", .type "BaseException", .type "object"] "ValueError.__new__" = true)
    (kx_InvalidShare : PySem.W.keepIn K (.ref c3) = true)
    (sb_InvalidShare : PySem.W.subIn K (.ref c3) (.type "BaseException") = some true)
    (ty_InvalidShare : PySem.W.typeIn K (.ref c3) = some (.type "type"))
    (xg_InvalidShare : PySem.W.findIn K (.ref c3) "__getattribute__" = some (some (.builtin "BaseException.__getattribute__")))
    (xk_InvalidShare : PySem.W.findIn K (.ref c3) "__getattr__" = some none)
    (xd_InvalidShare : PySem.W.hasDictIn K c3 = true)
    (xa_InvalidShare : PySem.W.findIn K (.ref c3) "__class__" = some (some (.builtin "object.__class__")))
    (xm_InvalidShare : PySem.W.mroIn K c3 (.type "object") = some true)
    (em_InvalidShare : PySem.W.exmOne K (.ref c3) (.ref C_PickError) = some true)
    (kv_InvalidShare : PySem.W.kitOne K (.ref c3) (.type "ValueError") = some true)
    (ko_3_0 : PySem.W.kitOne K (.ref c3) (.ref c0) = some false)
    (ko_3_1 : PySem.W.kitOne K (.ref c3) (.ref c1) = some false)
    (ko_3_2 : PySem.W.kitOne K (.ref c3) (.ref c2) = some false)
    (ko_3_3 : PySem.W.kitOne K (.ref c3) (.ref c3) = some true)
    (ko_3_4 : PySem.W.kitOne K (.ref c3) (.ref c4) = some false)
    (ko_3_5 : PySem.W.kitOne K (.ref c3) (.ref c5) = some false)
    (ko_3_6 : PySem.W.kitOne K (.ref c3) (.ref c6) = some false)
    (ko_3_7 : PySem.W.kitOne K (.ref c3) (.ref c7) = some false)
    (q_InvalidThings : PySem.W.excIn K c4 [.type "ValueError", .type "Exception", .type "BaseException", .type "object"] "ValueError.__new__" = true)
    (kx_InvalidThings : PySem.W.keepIn K (.ref c4) = true)
    (sb_InvalidThings : PySem.W.subIn K (.ref c4) (.type "BaseException") = some true)
    (ty_InvalidThings : PySem.W.typeIn K (.ref c4) = some (.type "type"))
    (xg_InvalidThings : PySem.W.findIn K (.ref c4) "__getattribute__" = some (some (.builtin "BaseException.__getattribute__")))
    (xk_InvalidThings : PySem.W.findIn K (.ref c4) "__getattr__" = some none)
    (xd_InvalidThings : PySem.W.hasDictIn K c4 = true)
    (xa_InvalidThings : PySem.W.findIn K (.ref c4) "__class__" = some (some (.builtin "object.__class__")))
    (xm_InvalidThings : PySem.W.mroIn K c4 (.type "object") = some true)
    (em_InvalidThings : PySem.W.exmOne K (.ref c4) (.ref C_PickError) = some true)
    (kv_InvalidThings : PySem.W.kitOne K (.ref c4) (.type "ValueError") = some true)
    (ko_4_0 : PySem.W.kitOne K (.ref c4) (.ref c0) = some false)
    (ko_4_1 : PySem.W.kitOne K (.ref c4) (.ref c1) = some false)
    (ko_4_2 : PySem.W.kitOne K (.ref c4) (.ref c2) = some false)
    (ko_4_3 : PySem.W.kitOne K (.ref c4) (.ref c3) = some false)
    (ko_4_4 : PySem.W.kitOne K (.ref c4) (.ref c4) = some true)
    (ko_4_5 : PySem.W.kitOne K (.ref c4) (.ref c5) = some false)
    (ko_4_6 : PySem.W.kitOne K (.ref c4) (.ref c6) = some false)
    (ko_4_7 : PySem.W.kitOne K (.ref c4) (.ref c7) = some false)
    (q_InvalidText : PySem.W.excIn K c5 [.type "ValueError", .type "Exception", .type "BaseException", .type "object"] "ValueError.__new__" = true)
    (kx_InvalidText : PySem.W.keepIn K (.ref c5) = true)
    (sb_InvalidText : PySem.W.subIn K (.ref c5) (.type "BaseException") = some true)
    (ty_InvalidText : PySem.W.typeIn K (.ref c5) = some (.type "type"))
    (xg_InvalidText : PySem.W.findIn K (.ref c5) "__getattribute__" = some (some (.builtin "BaseException.__getattribute__")))
    (xk_InvalidText : PySem.W.findIn K (.ref c5) "__getattr__" = some none)
    (xd_InvalidText : PySem.W.hasDictIn K c5 = true)
    (xa_InvalidText : PySem.W.findIn K (.ref c5) "__class__" = some (some (.builtin "object.__class__")))
    (xm_InvalidText : PySem.W.mroIn K c5 (.type "object") = some true)
    (em_InvalidText : PySem.W.exmOne K (.ref c5) (.ref C_PickError) = some true)
    (kv_InvalidText : PySem.W.kitOne K (.ref c5) (.type "ValueError") = some true)
    (ko_5_0 : PySem.W.kitOne K (.ref c5) (.ref c0) = some false)
    (ko_5_1 : PySem.W.kitOne K (.ref c5) (.ref c1) = some false)
    (ko_5_2 : PySem.W.kitOne K (.ref c5) (.ref c2) = some false)
    (ko_5_3 : PySem.W.kitOne K (.ref c5) (.ref c3) = some false)
    (ko_5_4 : PySem.W.kitOne K (.ref c5) (.ref c4) = some false)
    (ko_5_5 : PySem.W.kitOne K (.ref c5) (.ref c5) = some true)
    (ko_5_6 : PySem.W.kitOne K (.ref c5) (.ref c6) = some false)
    (ko_5_7 : PySem.W.kitOne K (.ref c5) (.ref c7) = some false)
    (q_TooMany : PySem.W.excIn K c6 [.type "ValueError", .type "Exception", .type "BaseException", .type "object"] "ValueError.__new__" = true)
    (kx_TooMany : PySem.W.keepIn K (.ref c6) = true)
    (sb_TooMany : PySem.W.subIn K (.ref c6) (.type "BaseException") = some true)
    (ty_TooMany : PySem.W.typeIn K (.ref c6) = some (.type "type"))
    (xg_TooMany : PySem.W.findIn K (.ref c6) "__getattribute__" = some (some (.builtin "BaseException.__getattribute__")))
    (xk_TooMany : PySem.W.findIn K (.ref c6) "__getattr__" = some none)
    (xd_TooMany : PySem.W.hasDictIn K c6 = true)
    (xa_TooMany : PySem.W.findIn K (.ref c6) "__class__" = some (some (.builtin "object.__class__")))
    (xm_TooMany : PySem.W.mroIn K c6 (.type "object") = some true)
    (em_TooMany : PySem.W.exmOne K (.ref c6) (.ref C_PickError) = some true)
    (kv_TooMany : PySem.W.kitOne K (.ref c6) (.type "ValueError") = some true)
    (ko_6_0 : PySem.W.kitOne K (.ref c6) (.ref c0) = some false)
    (ko_6_1 : PySem.W.kitOne K (.ref c6) (.ref c1) = some false)
    (ko_6_2 : PySem.W.kitOne K (.ref c6) (.ref c2) = some false)
    (ko_6_3 : PySem.W.kitOne K (.ref c6) (.ref c3) = some false)
    (ko_6_4 : PySem.W.kitOne K (.ref c6) (.ref c4) = some false)
    (ko_6_5 : PySem.W.kitOne K (.ref c6) (.ref c5) = some false)
    (ko_6_6 : PySem.W.kitOne K (.ref c6) (.ref c6) = some true)
    (ko_6_7 : PySem.W.kitOne K (.ref c6) (.ref c7) = some false)
    (q_NothingToUndo : PySem.W.excIn K c7 [.type "ValueError", .type "Exception", .type "BaseException", .type "object"] "ValueError.__new__" = true)
    (kx_NothingToUndo : PySem.W.keepIn K (.ref c7) = true)
    (sb_NothingToUndo : PySem.W.subIn K (.ref c7) (.type "BaseException") = some true)
    (ty_NothingToUndo : PySem.W.typeIn K (.ref c7) = some (.type "type"))
    (xg_NothingToUndo : PySem.W.findIn K (.ref c7) "__getattribute__" = some (some (.builtin "BaseException.__getattribute__")))
    (xk_NothingToUndo : PySem.W.findIn K (.ref c7) "__getattr__" = some none)
    (xd_NothingToUndo : PySem.W.hasDictIn K c7 = true)
    (xa_NothingToUndo : PySem.W.findIn K (.ref c7) "__class__" = some (some (.builtin "object.__class__")))
    (xm_NothingToUndo : PySem.W.mroIn K c7 (.type "object") = some true)
    (em_NothingToUndo : PySem.W.exmOne K (.ref c7) (.ref C_PickError) = some true)
    (kv_NothingToUndo : PySem.W.kitOne K (.ref c7) (.type "ValueError") = some true)
    (ko_7_0 : PySem.W.kitOne K (.ref c7) (.ref c0) = some false)
    (ko_7_1 : PySem.W.kitOne K (.ref c7) (.ref c1) = some false)
    (ko_7_2 : PySem.W.kitOne K (.ref c7) (.ref c2) = some false)
    (ko_7_3 : PySem.W.kitOne K (.ref c7) (.ref c3) = some false)
    (ko_7_4 : PySem.W.kitOne K (.ref c7) (.ref c4) = some false)
    (ko_7_5 : PySem.W.kitOne K (.ref c7) (.ref c5) = some false)
    (ko_7_6 : PySem.W.kitOne K (.ref c7) (.ref c6) = some false)
    (ko_7_7 : PySem.W.kitOne K (.ref c7) (.ref c7) = some true)
    (zVE : PySem.W.nsIn K mainGlobals "ValueError" = some none)
    (g_PickError : PySem.W.nsIn K mainGlobals "PickError" = some (some (.ref C_PickError)))
    (n_MOST_THINGS : PySem.W.nsIn K mainGlobals "MOST_THINGS" = some (some (.int 5 t_MOST_THINGS)))
    (n_MOST_WORTH : PySem.W.nsIn K mainGlobals "MOST_WORTH" = some (some (.int 1000000 t_MOST_WORTH)))
    (n_MOST_COMPARED : PySem.W.nsIn K mainGlobals "MOST_COMPARED" = some (some (.int 4 t_MOST_COMPARED)))
    (xN : PySem.W.specialIn K (.builtin "object.__class__") "__get__" = some (some (.builtin "getset_descriptor.__get__")))
    (xT : PySem.W.takesIn K (.builtin "object.__class__") = some true)
    (aPl : PySem.W.nsIn K mainGlobals "PLAIN" = some (some (.ref aPL)))
    (lPl : K.lookup aPL = some ⟨.type "tuple", odPL, .seq #[.str "best" t1PL, .str "out" t2PL, .str "swap" t3PL] nPL, slPL⟩)
    (z_all : PySem.W.nsIn K mainGlobals "all" = some none)
    (z_any : PySem.W.nsIn K mainGlobals "any" = some none)
    (z_sorted : PySem.W.nsIn K mainGlobals "sorted" = some none)
    (z_set : PySem.W.nsIn K mainGlobals "set" = some none)
    (z_list : PySem.W.nsIn K mainGlobals "list" = some none)
    (z_tuple : PySem.W.nsIn K mainGlobals "tuple" = some none)
    (z_isinstance : PySem.W.nsIn K mainGlobals "isinstance" = some none)
    (z_int : PySem.W.nsIn K mainGlobals "int" = some none)
    (z_bool : PySem.W.nsIn K mainGlobals "bool" = some none)
    (z_str : PySem.W.nsIn K mainGlobals "str" = some none)
    (z_range : PySem.W.nsIn K mainGlobals "range" = some none)
    (z_len : PySem.W.nsIn K mainGlobals "len" = some none)
    (z_sum : PySem.W.nsIn K mainGlobals "sum" = some none)
    (z_min : PySem.W.nsIn K mainGlobals "min" = some none)
    (z_max : PySem.W.nsIn K mainGlobals "max" = some none)
    (z_enumerate : PySem.W.nsIn K mainGlobals "enumerate" = some none)
    (z_abs : PySem.W.nsIn K mainGlobals "abs" = some none)
    (a_law : PySem.W.nsIn K mainGlobals "law" = some (some (.ref f_law_)))
    (l_law : K.lookup f_law_ = some ⟨oc_law, od_law, .func (PySem.W.fnOf "law" "law" (defArgs s_law) (defBody s_law) (defScope s_law) .none kV_law dc_law pm_law an_law (.ref c_law_) ct_law), sl_law⟩)
    (c_law : PySem.W.codeIn K (.ref c_law_) "law" = true)
    (k_law : PySem.W.keepIn K (.ref f_law_) = true)
    (hT_law : h.get? P_law = some { cls := .none, data := .fields #[] })
    (nT_law : K.lookup P_law = none)
    (hC_law : PySem.W.codeHdIn K c_law_ P_law = true) :
    LamX.LawAtS l w K CX0 9 63 "script" mg fa h := by
  have e := hfa.symm.trans (PySem.W.mg_of X G a_law)
  cases e
  have F_is_whole := fun_mk (st := s_is_whole) l_is_whole c_is_whole k_is_whole
  have m_is_whole := PySem.W.mg_of X G a_is_whole
  have b_is_whole := F_is_whole.binds (ps := ["value", "low", "high"]) fun _ _ _ _ _ _ us hl => match us, hl with | [_, _, _], _ => rfl
  have F_within := fun_mk (st := s_within) l_within c_within k_within
  have m_within := PySem.W.mg_of X G a_within
  have b_within := F_within.binds (ps := ["one", "other"]) fun _ _ _ _ _ _ us hl => match us, hl with | [_, _], _ => rfl
  have F_greatest_in := fun_mk (st := s_greatest_in) l_greatest_in c_greatest_in k_greatest_in
  have m_greatest_in := PySem.W.mg_of X G a_greatest_in
  have b_greatest_in := F_greatest_in.binds (ps := ["sets"]) fun _ _ _ _ _ _ us hl => match us, hl with | [_], _ => rfl
  have F_is_set := fun_mk (st := s_is_set) l_is_set c_is_set k_is_set
  have m_is_set := PySem.W.mg_of X G a_is_set
  have b_is_set := F_is_set.binds (ps := ["value", "things"]) fun _ _ _ _ _ _ us hl => match us, hl with | [_, _], _ => rfl
  have F_is_family := fun_mk (st := s_is_family) l_is_family c_is_family k_is_family
  have m_is_family := PySem.W.mg_of X G a_is_family
  have b_is_family := F_is_family.binds (ps := ["value"]) fun _ _ _ _ _ _ us hl => match us, hl with | [_], _ => rfl
  have F_need_family := fun_mk (st := s_need_family) l_need_family c_need_family k_need_family
  have m_need_family := PySem.W.mg_of X G a_need_family
  have b_need_family := F_need_family.binds (ps := ["family"]) fun _ _ _ _ _ _ us hl => match us, hl with | [_], _ => rfl
  have F_form := fun_mk (st := s_form) l_form c_form k_form
  have m_form := PySem.W.mg_of X G a_form
  have b_form := F_form.binds (ps := ["family"]) fun _ _ _ _ _ _ us hl => match us, hl with | [_], _ => rfl
  have F_is_rule_for := fun_mk (st := s_is_rule_for) l_is_rule_for c_is_rule_for k_is_rule_for
  have m_is_rule_for := PySem.W.mg_of X G a_is_rule_for
  have b_is_rule_for := F_is_rule_for.binds (ps := ["value", "things"]) fun _ _ _ _ _ _ us hl => match us, hl with | [_, _], _ => rfl
  have F_need_rule := fun_mk (st := s_need_rule) l_need_rule c_need_rule k_need_rule
  have m_need_rule := PySem.W.mg_of X G a_need_rule
  have b_need_rule := F_need_rule.binds (ps := ["rule", "family"]) fun _ _ _ _ _ _ us hl => match us, hl with | [_, _], _ => rfl
  have F_is_worths_for := fun_mk (st := s_is_worths_for) l_is_worths_for c_is_worths_for k_is_worths_for
  have m_is_worths_for := PySem.W.mg_of X G a_is_worths_for
  have b_is_worths_for := F_is_worths_for.binds (ps := ["value", "things"]) fun _ _ _ _ _ _ us hl => match us, hl with | [_, _], _ => rfl
  have F_need_worths := fun_mk (st := s_need_worths) l_need_worths c_need_worths k_need_worths
  have m_need_worths := PySem.W.mg_of X G a_need_worths
  have b_need_worths := F_need_worths.binds (ps := ["worths", "family"]) fun _ _ _ _ _ _ us hl => match us, hl with | [_, _], _ => rfl
  have F_pick := fun_mk (st := s_pick) l_pick c_pick k_pick
  have m_pick := PySem.W.mg_of X G a_pick
  have b_pick := F_pick.binds (ps := ["family", "rule", "worths"]) fun _ _ _ _ _ _ us hl => match us, hl with | [_, _, _], _ => rfl
  have F_best_set := fun_mk (st := s_best_set) l_best_set c_best_set k_best_set
  have m_best_set := PySem.W.mg_of X G a_best_set
  have b_best_set := F_best_set.binds (ps := ["family", "worths"]) fun _ _ _ _ _ _ us hl => match us, hl with | [_, _], _ => rfl
  have F_divisor := fun_mk (st := s_divisor) l_divisor c_divisor k_divisor
  have m_divisor := PySem.W.mg_of X G a_divisor
  have b_divisor := F_divisor.binds (ps := ["one", "other"]) fun _ _ _ _ _ _ us hl => match us, hl with | [_, _], _ => rfl
  have F_is_share := fun_mk (st := s_is_share) l_is_share c_is_share k_is_share
  have m_is_share := PySem.W.mg_of X G a_is_share
  have b_is_share := F_is_share.binds (ps := ["value"]) fun _ _ _ _ _ _ us hl => match us, hl with | [_], _ => rfl
  have F_low_worths := fun_mk (st := s_low_worths) l_low_worths c_low_worths k_low_worths
  have m_low_worths := PySem.W.mg_of X G a_low_worths
  have b_low_worths := F_low_worths.binds (ps := ["family", "rule", "told"]) fun _ _ _ _ _ _ us hl => match us, hl with | [_, _, _], _ => rfl
  have F_families_of := fun_mk (st := s_families_of) l_families_of c_families_of k_families_of
  have m_families_of := PySem.W.mg_of X G a_families_of
  have b_families_of := F_families_of.binds (ps := ["things"]) fun _ _ _ _ _ _ us hl => match us, hl with | [_], _ => rfl
  have F_written := fun_mk (st := s_written) l_written c_written k_written
  have m_written := PySem.W.mg_of X G a_written
  have b_written := F_written.binds (ps := ["family"]) fun _ _ _ _ _ _ us hl => match us, hl with | [_], _ => rfl
  have F_parse_family := fun_mk (st := s_parse_family) l_parse_family c_parse_family k_parse_family
  have m_parse_family := PySem.W.mg_of X G a_parse_family
  have b_parse_family := F_parse_family.binds (ps := ["text"]) fun _ _ _ _ _ _ us hl => match us, hl with | [_], _ => rfl
  have F_need_all := fun_mk (st := s_need_all) l_need_all c_need_all k_need_all
  have m_need_all := PySem.W.mg_of X G a_need_all
  have b_need_all := F_need_all.binds (ps := ["family", "rule", "other"]) fun _ _ _ _ _ _ us hl => match us, hl with | [_, _, _], _ => rfl
  have F_alike := fun_mk (st := s_alike) l_alike c_alike k_alike
  have m_alike := PySem.W.mg_of X G a_alike
  have b_alike := F_alike.binds (ps := ["family", "rule", "other"]) fun _ _ _ _ _ _ us hl => match us, hl with | [_, _, _], _ => rfl
  have F_law_drawn := fun_mk (st := s_law_drawn) l_law_drawn c_law_drawn k_law_drawn
  have m_law_drawn := PySem.W.mg_of X G a_law_drawn
  have b_law_drawn := F_law_drawn.binds (ps := ["cell", "k"]) fun _ _ _ _ _ _ us hl => match us, hl with | [_, _], _ => rfl
  have F_law_roll := fun_mk (st := s_law_roll) l_law_roll c_law_roll k_law_roll
  have m_law_roll := PySem.W.mg_of X G a_law_roll
  have b_law_roll := F_law_roll.binds (ps := ["dice", "many"]) fun _ _ _ _ _ _ us hl => match us, hl with | [_, _], _ => rfl
  have F_law_cell := fun_mk (st := s_law_cell) l_law_cell c_law_cell k_law_cell
  have m_law_cell := PySem.W.mg_of X G a_law_cell
  have b_law_cell := F_law_cell.binds (ps := ["script", "k"]) fun _ _ _ _ _ _ us hl => match us, hl with | [_, _], _ => rfl
  have F_law_rounds := fun_mk (st := s_law_rounds) l_law_rounds c_law_rounds k_law_rounds
  have m_law_rounds := PySem.W.mg_of X G a_law_rounds
  have b_law_rounds := F_law_rounds.binds (ps := ["script", "most"]) fun _ _ _ _ _ _ us hl => match us, hl with | [_, _], _ => rfl
  have F_law_met := fun_mk (st := s_law_met) l_law_met c_law_met k_law_met
  have m_law_met := PySem.W.mg_of X G a_law_met
  have b_law_met := F_law_met.binds (ps := ["deed"]) fun _ _ _ _ _ _ us hl => match us, hl with | [_], _ => rfl
  have F_law_alone := fun_mk (st := s_law_alone) l_law_alone c_law_alone k_law_alone
  have m_law_alone := PySem.W.mg_of X G a_law_alone
  have b_law_alone := F_law_alone.binds (ps := ["e", "own"]) fun _ _ _ _ _ _ us hl => match us, hl with | [_, _], _ => rfl
  have T : BTx K mg C := ⟨⟨pg, hd, po, sa⟩, nF, nR, nU, PySem.W.mg_of X G aC⟩
  have F_m_redo := fun_mk (st := s_Basket_redo) l_m_redo c_m_redo k_m_redo
  have b_m_redo := F_m_redo.binds (ps := ["self"]) fun _ _ _ _ _ _ us hl => match us, hl with | [_], _ => rfl
  have F_m_init := fun_mk (st := s_Basket_init) l_m_init c_m_init k_m_init
  have b_m_init := F_m_init.binds (ps := ["self", "family"]) fun _ _ _ _ _ _ us hl => match us, hl with | [_, _], _ => rfl
  let cx : Nat → Addr := fun i => [c0, c1, c2, c3, c4, c5, c6, c7].getD i 0
  have E_InvalidFamily : ExcT K mg "InvalidFamily" (cx 0) := ⟨PySem.W.mg_of X G g_InvalidFamily, q_InvalidFamily, kx_InvalidFamily, sb_InvalidFamily, ty_InvalidFamily⟩
  have E_InvalidRule : ExcT K mg "InvalidRule" (cx 1) := ⟨PySem.W.mg_of X G g_InvalidRule, q_InvalidRule, kx_InvalidRule, sb_InvalidRule, ty_InvalidRule⟩
  have E_InvalidWorths : ExcT K mg "InvalidWorths" (cx 2) := ⟨PySem.W.mg_of X G g_InvalidWorths, q_InvalidWorths, kx_InvalidWorths, sb_InvalidWorths, ty_InvalidWorths⟩
  have E_InvalidShare : ExcT K mg "InvalidShare" (cx 3) := ⟨PySem.W.mg_of X G g_InvalidShare, q_InvalidShare, kx_InvalidShare, sb_InvalidShare, ty_InvalidShare⟩
  have E_InvalidThings : ExcT K mg "InvalidThings" (cx 4) := ⟨PySem.W.mg_of X G g_InvalidThings, q_InvalidThings, kx_InvalidThings, sb_InvalidThings, ty_InvalidThings⟩
  have E_InvalidText : ExcT K mg "InvalidText" (cx 5) := ⟨PySem.W.mg_of X G g_InvalidText, q_InvalidText, kx_InvalidText, sb_InvalidText, ty_InvalidText⟩
  have E_TooMany : ExcT K mg "TooMany" (cx 6) := ⟨PySem.W.mg_of X G g_TooMany, q_TooMany, kx_TooMany, sb_TooMany, ty_TooMany⟩
  have E_NothingToUndo : ExcT K mg "NothingToUndo" (cx 7) := ⟨PySem.W.mg_of X G g_NothingToUndo, q_NothingToUndo, kx_NothingToUndo, sb_NothingToUndo, ty_NothingToUndo⟩
  have kit8 : ∀ i j, i < 8 → j < 8 → PySem.W.kitOne K (.ref (cx i)) (.ref (cx j)) = some (decide (i = j)) := by
    intro i j hi hj
    rcases (by omega : i = 0 ∨ i = 1 ∨ i = 2 ∨ i = 3 ∨ i = 4 ∨ i = 5 ∨ i = 6 ∨ i = 7) with rfl | rfl | rfl | rfl | rfl | rfl | rfl | rfl <;> rcases (by omega : j = 0 ∨ j = 1 ∨ j = 2 ∨ j = 3 ∨ j = 4 ∨ j = 5 ∨ j = 6 ∨ j = 7) with rfl | rfl | rfl | rfl | rfl | rfl | rfl | rfl
    · exact ko_0_0
    · exact ko_0_1
    · exact ko_0_2
    · exact ko_0_3
    · exact ko_0_4
    · exact ko_0_5
    · exact ko_0_6
    · exact ko_0_7
    · exact ko_1_0
    · exact ko_1_1
    · exact ko_1_2
    · exact ko_1_3
    · exact ko_1_4
    · exact ko_1_5
    · exact ko_1_6
    · exact ko_1_7
    · exact ko_2_0
    · exact ko_2_1
    · exact ko_2_2
    · exact ko_2_3
    · exact ko_2_4
    · exact ko_2_5
    · exact ko_2_6
    · exact ko_2_7
    · exact ko_3_0
    · exact ko_3_1
    · exact ko_3_2
    · exact ko_3_3
    · exact ko_3_4
    · exact ko_3_5
    · exact ko_3_6
    · exact ko_3_7
    · exact ko_4_0
    · exact ko_4_1
    · exact ko_4_2
    · exact ko_4_3
    · exact ko_4_4
    · exact ko_4_5
    · exact ko_4_6
    · exact ko_4_7
    · exact ko_5_0
    · exact ko_5_1
    · exact ko_5_2
    · exact ko_5_3
    · exact ko_5_4
    · exact ko_5_5
    · exact ko_5_6
    · exact ko_5_7
    · exact ko_6_0
    · exact ko_6_1
    · exact ko_6_2
    · exact ko_6_3
    · exact ko_6_4
    · exact ko_6_5
    · exact ko_6_6
    · exact ko_6_7
    · exact ko_7_0
    · exact ko_7_1
    · exact ko_7_2
    · exact ko_7_3
    · exact ko_7_4
    · exact ko_7_5
    · exact ko_7_6
    · exact ko_7_7
  have X8 : Ex8 K mg cx := ⟨PySem.W.mg_of X G g_InvalidFamily, PySem.W.mg_of X G g_InvalidRule, PySem.W.mg_of X G g_InvalidWorths, PySem.W.mg_of X G g_InvalidShare, PySem.W.mg_of X G g_InvalidThings, PySem.W.mg_of X G g_InvalidText, PySem.W.mg_of X G g_TooMany, PySem.W.mg_of X G g_NothingToUndo, PySem.W.mg_none_of X G zVE, by
      intro i hi
      rcases (by omega : i = 0 ∨ i = 1 ∨ i = 2 ∨ i = 3 ∨ i = 4 ∨ i = 5 ∨ i = 6 ∨ i = 7) with rfl | rfl | rfl | rfl | rfl | rfl | rfl | rfl
      · exact ⟨xg_InvalidFamily, xk_InvalidFamily, sb_InvalidFamily, xd_InvalidFamily, xa_InvalidFamily, xN, xT, xm_InvalidFamily⟩
      · exact ⟨xg_InvalidRule, xk_InvalidRule, sb_InvalidRule, xd_InvalidRule, xa_InvalidRule, xN, xT, xm_InvalidRule⟩
      · exact ⟨xg_InvalidWorths, xk_InvalidWorths, sb_InvalidWorths, xd_InvalidWorths, xa_InvalidWorths, xN, xT, xm_InvalidWorths⟩
      · exact ⟨xg_InvalidShare, xk_InvalidShare, sb_InvalidShare, xd_InvalidShare, xa_InvalidShare, xN, xT, xm_InvalidShare⟩
      · exact ⟨xg_InvalidThings, xk_InvalidThings, sb_InvalidThings, xd_InvalidThings, xa_InvalidThings, xN, xT, xm_InvalidThings⟩
      · exact ⟨xg_InvalidText, xk_InvalidText, sb_InvalidText, xd_InvalidText, xa_InvalidText, xN, xT, xm_InvalidText⟩
      · exact ⟨xg_TooMany, xk_TooMany, sb_TooMany, xd_TooMany, xa_TooMany, xN, xT, xm_TooMany⟩
      · exact ⟨xg_NothingToUndo, xk_NothingToUndo, sb_NothingToUndo, xd_NothingToUndo, xa_NothingToUndo, xN, xT, xm_NothingToUndo⟩, kit8, by
      intro i hi
      rcases (by omega : i = 0 ∨ i = 1 ∨ i = 2 ∨ i = 3 ∨ i = 4 ∨ i = 5 ∨ i = 6 ∨ i = 7) with rfl | rfl | rfl | rfl | rfl | rfl | rfl | rfl
      · exact kv_InvalidFamily
      · exact kv_InvalidRule
      · exact kv_InvalidWorths
      · exact kv_InvalidShare
      · exact kv_InvalidThings
      · exact kv_InvalidText
      · exact kv_TooMany
      · exact kv_NothingToUndo⟩
  have em8 : ∀ i, i < 8 → PySem.W.exmOne K (.ref (cx i)) (.ref C_PickError) = some true := by
      intro i hi
      rcases (by omega : i = 0 ∨ i = 1 ∨ i = 2 ∨ i = 3 ∨ i = 4 ∨ i = 5 ∨ i = 6 ∨ i = 7) with rfl | rfl | rfl | rfl | rfl | rfl | rfl | rfl
      · exact em_InvalidFamily
      · exact em_InvalidRule
      · exact em_InvalidWorths
      · exact em_InvalidShare
      · exact em_InvalidThings
      · exact em_InvalidText
      · exact em_TooMany
      · exact em_NothingToUndo
  have mPickError := PySem.W.mg_of X G g_PickError
  have mMOST_THINGS := PySem.W.mg_of X G n_MOST_THINGS
  have mMOST_WORTH := PySem.W.mg_of X G n_MOST_WORTH
  have mMOST_COMPARED := PySem.W.mg_of X G n_MOST_COMPARED
  have Pk : PlainK K mg := ⟨aPL, _, _, _, PySem.W.mg_of X G aPl, lPl, rfl, rfl, (show 3 ≤ sizeLine by decide), .cons ⟨_, rfl⟩ (.cons ⟨_, rfl⟩ (.cons ⟨_, rfl⟩ .nil))⟩
  have B : Blt mg := ⟨PySem.W.mg_none_of X G z_all, PySem.W.mg_none_of X G z_any, PySem.W.mg_none_of X G z_sorted, PySem.W.mg_none_of X G z_set, PySem.W.mg_none_of X G z_list, PySem.W.mg_none_of X G z_tuple, PySem.W.mg_none_of X G z_isinstance, PySem.W.mg_none_of X G z_int, PySem.W.mg_none_of X G z_bool, PySem.W.mg_none_of X G z_str, PySem.W.mg_none_of X G z_range, PySem.W.mg_none_of X G z_len, PySem.W.mg_none_of X G z_sum, PySem.W.mg_none_of X G z_min, PySem.W.mg_none_of X G z_max, PySem.W.mg_none_of X G z_enumerate, PySem.W.mg_none_of X G z_abs⟩
  refine ⟨PySem.W.fnOf "law" "law" (defArgs s_law) (defBody s_law) (defScope s_law) .none kV_law dc_law pm_law an_law (.ref c_law_) ct_law, [(c_law_, P_law)], spLaw10 K [(P_law, ("law.<locals>." : Str) ++ "<lambda>")], (fun p hp => by
      simp only [List.mem_cons, List.not_mem_nil, or_false] at hp
      rcases hp with rfl
      · exact hT_law), (fun p hp => by
      simp only [List.mem_cons, List.not_mem_nil, or_false] at hp
      rcases hp with rfl
      · exact nT_law), (fun p hp => by
      simp only [List.mem_cons, List.not_mem_nil, or_false] at hp
      rcases hp with rfl
      · exact PySem.W.codeHd_of_K X hC_law), fun s u => .of_eq rfl, fun H a ns hl _ ht hS => ⟨a, ns, rfl, hS, hl, fun x hx => by
      simp only [List.mem_cons, List.not_mem_nil, or_false] at hx
      rcases hx with rfl
      exact ht (c_law_, P_law) (by simp), fun _ => rfl⟩, fun base _ _ tb => ?_⟩
  · have tb_law := tb (c_law_, P_law) (by simp)
    have mT_law : (P_law, ("law.<locals>." : Str) ++ "<lambda>") ∈ ([(P_law, ("law.<locals>." : Str) ++ "<lambda>")] : Tbs) := by simp
    have hu_law : ∀ p ∈ ([(P_law, ("law.<locals>." : Str) ++ "<lambda>")] : Tbs), p.1 = P_law → p.2 = ("law.<locals>." : Str) ++ "<lambda>" := by
      intro p hp e
      simp only [List.mem_cons, List.not_mem_nil, or_false] at hp
      rcases hp with rfl
      · rfl
    have g_is_whole : FnOk l.prog w K mg base CX0 1 f_is_whole_ _ ["value", "low", "high"] (spR K R_is_whole) := ok_is_whole F_is_whole B
    have f_is_whole : Fn l.prog w K mg base "is_whole" 1 (spR K R_is_whole) := fn_mk F_is_whole g_is_whole m_is_whole b_is_whole
    have g_within : FnOk l.prog w K mg base CX0 1 f_within_ _ ["one", "other"] (spR K R_within) := ok_within F_within B
    have f_within : Fn l.prog w K mg base "within" 1 (spR K R_within) := fn_mk F_within g_within m_within b_within
    have g_greatest_in : FnOk l.prog w K mg base CX0 2 f_greatest_in_ _ ["sets"] (spR K R_greatest_in) := ok_greatest_in F_greatest_in B f_within
    have f_greatest_in : Fn l.prog w K mg base "greatest_in" 2 (spR K R_greatest_in) := fn_mk F_greatest_in g_greatest_in m_greatest_in b_greatest_in
    have g_is_set : FnOk l.prog w K mg base CX0 2 f_is_set_ _ ["value", "things"] (spR K R_is_set) := ok_is_set F_is_set B f_is_whole
    have f_is_set : Fn l.prog w K mg base "is_set" 2 (spR K R_is_set) := fn_mk F_is_set g_is_set m_is_set b_is_set
    have g_is_family : FnOk l.prog w K mg base CX0 3 f_is_family_ _ ["value"] (spR K R_is_family) := ok_is_family F_is_family B ⟨_, mMOST_THINGS⟩ f_is_whole f_is_set f_greatest_in
    have f_is_family : Fn l.prog w K mg base "is_family" 3 (spR K R_is_family) := fn_mk F_is_family g_is_family m_is_family b_is_family
    have g_need_family : FnOk l.prog w K mg base (L2N.CX l.prog w) 4 f_need_family_ _ ["family"] (spX K cx R_needF) := ok_needF F_need_family f_is_family E_InvalidFamily
    have f_need_family : FnX l.prog w K mg base "need_family" 4 (spX K cx R_needF) := fnX_mk F_need_family g_need_family m_need_family b_need_family
    have g_form : FnOk l.prog w K mg base (L2N.CX l.prog w) 5 f_form_ _ ["family"] (spX K cx R_formX) := ok_formX F_form f_need_family
    have f_form : FnX l.prog w K mg base "form" 5 (spX K cx R_formX) := fnX_mk F_form g_form m_form b_form
    have g_is_rule_for : FnOk l.prog w K mg base CX0 2 f_is_rule_for_ _ ["value", "things"] (spR K R_is_rule_for) := ok_is_rule_for F_is_rule_for B Pk f_is_whole
    have f_is_rule_for : Fn l.prog w K mg base "is_rule_for" 2 (spR K R_is_rule_for) := fn_mk F_is_rule_for g_is_rule_for m_is_rule_for b_is_rule_for
    have g_need_rule : FnOk l.prog w K mg base (L2N.CX l.prog w) 3 f_need_rule_ _ ["rule", "family"] (spX K cx R_need_rule) := ok_need_rule F_need_rule f_is_rule_for E_InvalidRule
    have f_need_rule : FnX l.prog w K mg base "need_rule" 3 (spX K cx R_need_rule) := fnX_mk F_need_rule g_need_rule m_need_rule b_need_rule
    have g_is_worths_for : FnOk l.prog w K mg base CX0 2 f_is_worths_for_ _ ["value", "things"] (spR K R_is_worths_for) := ok_is_worths_for F_is_worths_for B ⟨_, mMOST_WORTH⟩ f_is_whole
    have f_is_worths_for : Fn l.prog w K mg base "is_worths_for" 2 (spR K R_is_worths_for) := fn_mk F_is_worths_for g_is_worths_for m_is_worths_for b_is_worths_for
    have g_need_worths : FnOk l.prog w K mg base (L2N.CX l.prog w) 3 f_need_worths_ _ ["worths", "family"] (spX K cx R_need_worths) := ok_need_worths F_need_worths f_is_worths_for E_InvalidWorths
    have f_need_worths : FnX l.prog w K mg base "need_worths" 3 (spX K cx R_need_worths) := fnX_mk F_need_worths g_need_worths m_need_worths b_need_worths
    have g_pick : FnOk l.prog w K mg base (L2N.CX l.prog w) 5 f_pick_ _ ["family", "rule", "worths"] (spX K cx R_pickX) := ok_pickX F_pick f_need_family f_need_rule
    have f_pick : FnX l.prog w K mg base "pick" 5 (spX K cx R_pickX) := fnX_mk F_pick g_pick m_pick b_pick
    have g_best_set : FnOk l.prog w K mg base (L2N.CX l.prog w) 5 f_best_set_ _ ["family", "worths"] (spX K cx R_bestX) := ok_bestX F_best_set f_need_family f_need_worths
    have f_best_set : FnX l.prog w K mg base "best_set" 5 (spX K cx R_bestX) := fnX_mk F_best_set g_best_set m_best_set b_best_set
    have g_divisor : FnOk l.prog w K mg base CX0 1 f_divisor_ _ ["one", "other"] (spR K R_divisor) := ok_divisor F_divisor B
    have f_divisor : Fn l.prog w K mg base "divisor" 1 (spR K R_divisor) := fn_mk F_divisor g_divisor m_divisor b_divisor
    have g_is_share : FnOk l.prog w K mg base CX0 2 f_is_share_ _ ["value"] (spR K R_is_share) := ok_is_share F_is_share B f_is_whole f_divisor
    have f_is_share : Fn l.prog w K mg base "is_share" 2 (spR K R_is_share) := fn_mk F_is_share g_is_share m_is_share b_is_share
    have g_low_worths : FnOk l.prog w K mg base (L2N.CX l.prog w) 5 f_low_worths_ _ ["family", "rule", "told"] (spX K cx R_lowX) := ok_lowX F_low_worths f_need_family f_need_rule f_is_share E_InvalidShare
    have f_low_worths : FnX l.prog w K mg base "low_worths" 5 (spX K cx R_lowX) := fnX_mk F_low_worths g_low_worths m_low_worths b_low_worths
    have g_families_of : FnOk l.prog w K mg base (L2N.CX l.prog w) 2 f_families_of_ _ ["things"] (spX K cx R_fofX) := ok_fofX F_families_of f_is_whole E_InvalidThings
    have f_families_of : FnX l.prog w K mg base "families_of" 2 (spX K cx R_fofX) := fnX_mk F_families_of g_families_of m_families_of b_families_of
    have g_written : FnOk l.prog w K mg base CX0 1 f_written_ _ ["family"] (spR K R_written) := ok_written F_written B
    have f_written : Fn l.prog w K mg base "written" 1 (spR K R_written) := fn_mk F_written g_written m_written b_written
    have g_parse_family : FnOk l.prog w K mg base (L2N.CX l.prog w) 4 f_parse_family_ _ ["text"] (spX K cx R_parse) := ok_parse F_parse_family B f_is_family f_written E_InvalidText
    have f_parse_family : FnX l.prog w K mg base "parse_family" 4 (spX K cx R_parse) := fnX_mk F_parse_family g_parse_family m_parse_family b_parse_family
    have g_need_all : FnOk l.prog w K mg base (L2N.CX l.prog w) 5 f_need_all_ _ ["family", "rule", "other"] (spX K cx R_allX) := ok_allX F_need_all ⟨_, mMOST_COMPARED⟩ f_need_family f_need_rule E_TooMany
    have f_need_all : FnX l.prog w K mg base "need_all" 5 (spX K cx R_allX) := fnX_mk F_need_all g_need_all m_need_all b_need_all
    have g_alike : FnOk l.prog w K mg base (L2N.CX l.prog w) 6 f_alike_ _ ["family", "rule", "other"] (spX K cx R_allX) := ok_alikeX F_alike f_need_all
    have f_alike : FnX l.prog w K mg base "alike" 6 (spX K cx R_allX) := fnX_mk F_alike g_alike m_alike b_alike
    have g_law_drawn : FnOk l.prog w K mg base CX0 1 f_law_drawn_ _ ["cell", "k"] (spR K R_law_drawn) := ok_law_drawn F_law_drawn
    have f_law_drawn : Fn l.prog w K mg base "_law_drawn" 1 (spR K R_law_drawn) := fn_mk F_law_drawn g_law_drawn m_law_drawn b_law_drawn
    have g_law_roll : FnOk l.prog w K mg base CX0 2 f_law_roll_ _ ["dice", "many"] (spRoll) := ok_law_roll F_law_roll f_law_drawn
    have f_law_roll : Fn l.prog w K mg base "_law_roll" 2 (spRoll) := fn_mk F_law_roll g_law_roll m_law_roll b_law_roll
    have g_law_cell : FnOk l.prog w K mg base CX0 1 f_law_cell_ _ ["script", "k"] (spCell K) := ok_law_cell F_law_cell B
    have f_law_cell : Fn l.prog w K mg base "_law_cell" 1 (spCell K) := fn_mk F_law_cell g_law_cell m_law_cell b_law_cell
    have g_law_rounds : FnOk l.prog w K mg base CX0 2 f_law_rounds_ _ ["script", "most"] (spRounds K) := ok_law_rounds F_law_rounds B g_law_cell m_law_cell k_law_cell b_law_cell
    have f_law_rounds : Fn l.prog w K mg base "_law_rounds" 2 (spRounds K) := fn_mk F_law_rounds g_law_rounds m_law_rounds b_law_rounds
    have Mt : MetT K mg cx f_law_met_ C_PickError _ := ⟨F_law_met, b_law_met, m_law_met, mPickError, em8⟩
    have g_law_alone : FnOk l.prog w K mg base CX0 1 f_law_alone_ _ ["e", "own"] (spAlone K cx) := ok_law_alone F_law_alone B X8
    have f_law_alone : Fn l.prog w K mg base "_law_alone" 1 (spAlone K cx) := fn_mk F_law_alone g_law_alone m_law_alone b_law_alone
    have g_m_redo : FnOk l.prog w K mg base (L2N.CX l.prog w) 2 f_m_redo_ _ ["self"] (spRedo0 K C (cx 7)) := ok_redo0 F_m_redo T E_NothingToUndo
    have f_m_redo : FnMX l.prog w K mg base C "redo" 2 (spRedo0 K C (cx 7)) := ⟨_, _, _, g_m_redo, ⟨a_m_redo, i_m_redo, k_m_redo⟩, b_m_redo⟩
    have Mb : MkB l.prog w K mg base C (cx 0) := ⟨_, _, ⟨mkB, a_m_init, i_m_init, kcB⟩, ok_initX F_m_init T (fnX_mk F_need_family (ok_need_familyX F_need_family f_is_family E_InvalidFamily) m_need_family b_need_family), b_m_init⟩
    exact ok_law10 l_law c_law (⟨B, f_law_roll, f_law_rounds, f_law_alone, f_form, f_pick, f_best_set, f_low_worths, f_families_of, f_parse_family, f_alike, T, Mb, f_m_redo, Mt, tb_law, mT_law, hu_law⟩ : LW10 _ w K mg base C cx _ _ _ c_law_ P_law _)

end G9
open PySem PySem.W PyProof.Rows
set_option maxHeartbeats 0 in
theorem PySem.Challenge.cw_pickcones_k10_errors_apart_holds : PySem.Challenge.rw_pickcones_k10_errors_apart.Holds := by
  w_on; o_law; k_head; (case hw => w_witness2)
  k_fill
  refine LamX.walk_ofTs (l := PySem.Challenge.rw_pickcones_k10_errors_apart) (n := 63) (k := 9) (x := "script") (CX := fun _ => L2.CX0) rfl (by decide) rfl ⟨rfl, by decide, by decide⟩ (fun w h Y => PySem.W.km_in_of Y) ?F (fun _ _ _ _ _ z => z)
  case F =>
    intro w mg fa h Y KX G hmg
    refine' G9.all_mk KX G hmg ?a_is_whole ?l_is_whole ?c_is_whole ?k_is_whole ?a_within ?l_within ?c_within ?k_within ?a_greatest_in ?l_greatest_in ?c_greatest_in ?k_greatest_in ?a_is_set ?l_is_set ?c_is_set ?k_is_set ?a_is_family ?l_is_family ?c_is_family ?k_is_family ?a_need_family ?l_need_family ?c_need_family ?k_need_family ?a_form ?l_form ?c_form ?k_form ?a_is_rule_for ?l_is_rule_for ?c_is_rule_for ?k_is_rule_for ?a_need_rule ?l_need_rule ?c_need_rule ?k_need_rule ?a_is_worths_for ?l_is_worths_for ?c_is_worths_for ?k_is_worths_for ?a_need_worths ?l_need_worths ?c_need_worths ?k_need_worths ?a_pick ?l_pick ?c_pick ?k_pick ?a_best_set ?l_best_set ?c_best_set ?k_best_set ?a_divisor ?l_divisor ?c_divisor ?k_divisor ?a_is_share ?l_is_share ?c_is_share ?k_is_share ?a_low_worths ?l_low_worths ?c_low_worths ?k_low_worths ?a_families_of ?l_families_of ?c_families_of ?k_families_of ?a_written ?l_written ?c_written ?k_written ?a_parse_family ?l_parse_family ?c_parse_family ?k_parse_family ?a_need_all ?l_need_all ?c_need_all ?k_need_all ?a_alike ?l_alike ?c_alike ?k_alike ?a_law_drawn ?l_law_drawn ?c_law_drawn ?k_law_drawn ?a_law_roll ?l_law_roll ?c_law_roll ?k_law_roll ?a_law_cell ?l_law_cell ?c_law_cell ?k_law_cell ?a_law_rounds ?l_law_rounds ?c_law_rounds ?k_law_rounds ?a_law_met ?l_law_met ?c_law_met ?k_law_met ?a_law_alone ?l_law_alone ?c_law_alone ?k_law_alone ?aC ?pg ?hd ?po ?sa ?mkB ?kcB ?nF ?nR ?nU ?a_m_redo ?i_m_redo ?l_m_redo ?c_m_redo ?k_m_redo ?a_m_init ?i_m_init ?l_m_init ?c_m_init ?k_m_init ?g_InvalidFamily ?g_InvalidRule ?g_InvalidWorths ?g_InvalidShare ?g_InvalidThings ?g_InvalidText ?g_TooMany ?g_NothingToUndo ?q_InvalidFamily ?kx_InvalidFamily ?sb_InvalidFamily ?ty_InvalidFamily ?xg_InvalidFamily ?xk_InvalidFamily ?xd_InvalidFamily ?xa_InvalidFamily ?xm_InvalidFamily ?em_InvalidFamily ?kv_InvalidFamily ?ko_0_0 ?ko_0_1 ?ko_0_2 ?ko_0_3 ?ko_0_4 ?ko_0_5 ?ko_0_6 ?ko_0_7 ?q_InvalidRule ?kx_InvalidRule ?sb_InvalidRule ?ty_InvalidRule ?xg_InvalidRule ?xk_InvalidRule ?xd_InvalidRule ?xa_InvalidRule ?xm_InvalidRule ?em_InvalidRule ?kv_InvalidRule ?ko_1_0 ?ko_1_1 ?ko_1_2 ?ko_1_3 ?ko_1_4 ?ko_1_5 ?ko_1_6 ?ko_1_7 ?q_InvalidWorths ?kx_InvalidWorths ?sb_InvalidWorths ?ty_InvalidWorths ?xg_InvalidWorths ?xk_InvalidWorths ?xd_InvalidWorths ?xa_InvalidWorths ?xm_InvalidWorths ?em_InvalidWorths ?kv_InvalidWorths ?ko_2_0 ?ko_2_1 ?ko_2_2 ?ko_2_3 ?ko_2_4 ?ko_2_5 ?ko_2_6 ?ko_2_7 ?q_InvalidShare ?kx_InvalidShare ?sb_InvalidShare ?ty_InvalidShare ?xg_InvalidShare ?xk_InvalidShare ?xd_InvalidShare ?xa_InvalidShare ?xm_InvalidShare ?em_InvalidShare ?kv_InvalidShare ?ko_3_0 ?ko_3_1 ?ko_3_2 ?ko_3_3 ?ko_3_4 ?ko_3_5 ?ko_3_6 ?ko_3_7 ?q_InvalidThings ?kx_InvalidThings ?sb_InvalidThings ?ty_InvalidThings ?xg_InvalidThings ?xk_InvalidThings ?xd_InvalidThings ?xa_InvalidThings ?xm_InvalidThings ?em_InvalidThings ?kv_InvalidThings ?ko_4_0 ?ko_4_1 ?ko_4_2 ?ko_4_3 ?ko_4_4 ?ko_4_5 ?ko_4_6 ?ko_4_7 ?q_InvalidText ?kx_InvalidText ?sb_InvalidText ?ty_InvalidText ?xg_InvalidText ?xk_InvalidText ?xd_InvalidText ?xa_InvalidText ?xm_InvalidText ?em_InvalidText ?kv_InvalidText ?ko_5_0 ?ko_5_1 ?ko_5_2 ?ko_5_3 ?ko_5_4 ?ko_5_5 ?ko_5_6 ?ko_5_7 ?q_TooMany ?kx_TooMany ?sb_TooMany ?ty_TooMany ?xg_TooMany ?xk_TooMany ?xd_TooMany ?xa_TooMany ?xm_TooMany ?em_TooMany ?kv_TooMany ?ko_6_0 ?ko_6_1 ?ko_6_2 ?ko_6_3 ?ko_6_4 ?ko_6_5 ?ko_6_6 ?ko_6_7 ?q_NothingToUndo ?kx_NothingToUndo ?sb_NothingToUndo ?ty_NothingToUndo ?xg_NothingToUndo ?xk_NothingToUndo ?xd_NothingToUndo ?xa_NothingToUndo ?xm_NothingToUndo ?em_NothingToUndo ?kv_NothingToUndo ?ko_7_0 ?ko_7_1 ?ko_7_2 ?ko_7_3 ?ko_7_4 ?ko_7_5 ?ko_7_6 ?ko_7_7 ?zVE ?g_PickError ?n_MOST_THINGS ?n_MOST_WORTH ?n_MOST_COMPARED ?xN ?xT ?aPl ?lPl ?z_all ?z_any ?z_sorted ?z_set ?z_list ?z_tuple ?z_isinstance ?z_int ?z_bool ?z_str ?z_range ?z_len ?z_sum ?z_min ?z_max ?z_enumerate ?z_abs ?a_law ?l_law ?c_law ?k_law ?hT_law ?nT_law ?hC_law
    (case a_is_whole => k_is)
    (case l_is_whole => k_is)
    (case c_is_whole => k_is)
    (case k_is_whole => k_is)
    (case a_within => k_is)
    (case l_within => k_is)
    (case c_within => k_is)
    (case k_within => k_is)
    (case a_greatest_in => k_is)
    (case l_greatest_in => k_is)
    (case c_greatest_in => k_is)
    (case k_greatest_in => k_is)
    (case a_is_set => k_is)
    (case l_is_set => k_is)
    (case c_is_set => k_is)
    (case k_is_set => k_is)
    (case a_is_family => k_is)
    (case l_is_family => k_is)
    (case c_is_family => k_is)
    (case k_is_family => k_is)
    (case a_need_family => k_is)
    (case l_need_family => k_is)
    (case c_need_family => k_is)
    (case k_need_family => k_is)
    (case a_form => k_is)
    (case l_form => k_is)
    (case c_form => k_is)
    (case k_form => k_is)
    (case a_is_rule_for => k_is)
    (case l_is_rule_for => k_is)
    (case c_is_rule_for => k_is)
    (case k_is_rule_for => k_is)
    (case a_need_rule => k_is)
    (case l_need_rule => k_is)
    (case c_need_rule => k_is)
    (case k_need_rule => k_is)
    (case a_is_worths_for => k_is)
    (case l_is_worths_for => k_is)
    (case c_is_worths_for => k_is)
    (case k_is_worths_for => k_is)
    (case a_need_worths => k_is)
    (case l_need_worths => k_is)
    (case c_need_worths => k_is)
    (case k_need_worths => k_is)
    (case a_pick => k_is)
    (case l_pick => k_is)
    (case c_pick => k_is)
    (case k_pick => k_is)
    (case a_best_set => k_is)
    (case l_best_set => k_is)
    (case c_best_set => k_is)
    (case k_best_set => k_is)
    (case a_divisor => k_is)
    (case l_divisor => k_is)
    (case c_divisor => k_is)
    (case k_divisor => k_is)
    (case a_is_share => k_is)
    (case l_is_share => k_is)
    (case c_is_share => k_is)
    (case k_is_share => k_is)
    (case a_low_worths => k_is)
    (case l_low_worths => k_is)
    (case c_low_worths => k_is)
    (case k_low_worths => k_is)
    (case a_families_of => k_is)
    (case l_families_of => k_is)
    (case c_families_of => k_is)
    (case k_families_of => k_is)
    (case a_written => k_is)
    (case l_written => k_is)
    (case c_written => k_is)
    (case k_written => k_is)
    (case a_parse_family => k_is)
    (case l_parse_family => k_is)
    (case c_parse_family => k_is)
    (case k_parse_family => k_is)
    (case a_need_all => k_is)
    (case l_need_all => k_is)
    (case c_need_all => k_is)
    (case k_need_all => k_is)
    (case a_alike => k_is)
    (case l_alike => k_is)
    (case c_alike => k_is)
    (case k_alike => k_is)
    (case a_law_drawn => k_is)
    (case l_law_drawn => k_is)
    (case c_law_drawn => k_is)
    (case k_law_drawn => k_is)
    (case a_law_roll => k_is)
    (case l_law_roll => k_is)
    (case c_law_roll => k_is)
    (case k_law_roll => k_is)
    (case a_law_cell => k_is)
    (case l_law_cell => k_is)
    (case c_law_cell => k_is)
    (case k_law_cell => k_is)
    (case a_law_rounds => k_is)
    (case l_law_rounds => k_is)
    (case c_law_rounds => k_is)
    (case k_law_rounds => k_is)
    (case a_law_met => k_is)
    (case l_law_met => k_is)
    (case c_law_met => k_is)
    (case k_law_met => k_is)
    (case a_law_alone => k_is)
    (case l_law_alone => k_is)
    (case c_law_alone => k_is)
    (case k_law_alone => k_is)
    (case aC => k_is)
    (case pg => k_is)
    (case hd => k_is)
    (case po => k_is)
    (case sa => k_is)
    (case mkB => k_is)
    (case kcB => k_is)
    (case nF => k_is)
    (case nR => k_is)
    (case nU => k_is)
    (case a_m_redo => k_is)
    (case i_m_redo => k_is)
    (case l_m_redo => k_is)
    (case c_m_redo => k_is)
    (case k_m_redo => k_is)
    (case a_m_init => k_is)
    (case i_m_init => k_is)
    (case l_m_init => k_is)
    (case c_m_init => k_is)
    (case k_m_init => k_is)
    (case g_InvalidFamily => k_is)
    (case g_InvalidRule => k_is)
    (case g_InvalidWorths => k_is)
    (case g_InvalidShare => k_is)
    (case g_InvalidThings => k_is)
    (case g_InvalidText => k_is)
    (case g_TooMany => k_is)
    (case g_NothingToUndo => k_is)
    (case q_InvalidFamily => first | k_is | kernel_rfl)
    (case kx_InvalidFamily => k_is)
    (case sb_InvalidFamily => first | k_is | kernel_rfl)
    (case ty_InvalidFamily => first | k_is | kernel_rfl)
    (case xg_InvalidFamily => first | k_is | kernel_rfl)
    (case xk_InvalidFamily => first | k_is | kernel_rfl)
    (case xd_InvalidFamily => first | k_is | kernel_rfl)
    (case xa_InvalidFamily => first | k_is | kernel_rfl)
    (case xm_InvalidFamily => first | k_is | kernel_rfl)
    (case em_InvalidFamily => first | k_is | kernel_rfl)
    (case kv_InvalidFamily => first | k_is | kernel_rfl)
    (case ko_0_0 => first | k_is | kernel_rfl)
    (case ko_0_1 => first | k_is | kernel_rfl)
    (case ko_0_2 => first | k_is | kernel_rfl)
    (case ko_0_3 => first | k_is | kernel_rfl)
    (case ko_0_4 => first | k_is | kernel_rfl)
    (case ko_0_5 => first | k_is | kernel_rfl)
    (case ko_0_6 => first | k_is | kernel_rfl)
    (case ko_0_7 => first | k_is | kernel_rfl)
    (case q_InvalidRule => first | k_is | kernel_rfl)
    (case kx_InvalidRule => k_is)
    (case sb_InvalidRule => first | k_is | kernel_rfl)
    (case ty_InvalidRule => first | k_is | kernel_rfl)
    (case xg_InvalidRule => first | k_is | kernel_rfl)
    (case xk_InvalidRule => first | k_is | kernel_rfl)
    (case xd_InvalidRule => first | k_is | kernel_rfl)
    (case xa_InvalidRule => first | k_is | kernel_rfl)
    (case xm_InvalidRule => first | k_is | kernel_rfl)
    (case em_InvalidRule => first | k_is | kernel_rfl)
    (case kv_InvalidRule => first | k_is | kernel_rfl)
    (case ko_1_0 => first | k_is | kernel_rfl)
    (case ko_1_1 => first | k_is | kernel_rfl)
    (case ko_1_2 => first | k_is | kernel_rfl)
    (case ko_1_3 => first | k_is | kernel_rfl)
    (case ko_1_4 => first | k_is | kernel_rfl)
    (case ko_1_5 => first | k_is | kernel_rfl)
    (case ko_1_6 => first | k_is | kernel_rfl)
    (case ko_1_7 => first | k_is | kernel_rfl)
    (case q_InvalidWorths => first | k_is | kernel_rfl)
    (case kx_InvalidWorths => k_is)
    (case sb_InvalidWorths => first | k_is | kernel_rfl)
    (case ty_InvalidWorths => first | k_is | kernel_rfl)
    (case xg_InvalidWorths => first | k_is | kernel_rfl)
    (case xk_InvalidWorths => first | k_is | kernel_rfl)
    (case xd_InvalidWorths => first | k_is | kernel_rfl)
    (case xa_InvalidWorths => first | k_is | kernel_rfl)
    (case xm_InvalidWorths => first | k_is | kernel_rfl)
    (case em_InvalidWorths => first | k_is | kernel_rfl)
    (case kv_InvalidWorths => first | k_is | kernel_rfl)
    (case ko_2_0 => first | k_is | kernel_rfl)
    (case ko_2_1 => first | k_is | kernel_rfl)
    (case ko_2_2 => first | k_is | kernel_rfl)
    (case ko_2_3 => first | k_is | kernel_rfl)
    (case ko_2_4 => first | k_is | kernel_rfl)
    (case ko_2_5 => first | k_is | kernel_rfl)
    (case ko_2_6 => first | k_is | kernel_rfl)
    (case ko_2_7 => first | k_is | kernel_rfl)
    (case q_InvalidShare => first | k_is | kernel_rfl)
    (case kx_InvalidShare => k_is)
    (case sb_InvalidShare => first | k_is | kernel_rfl)
    (case ty_InvalidShare => first | k_is | kernel_rfl)
    (case xg_InvalidShare => first | k_is | kernel_rfl)
    (case xk_InvalidShare => first | k_is | kernel_rfl)
    (case xd_InvalidShare => first | k_is | kernel_rfl)
    (case xa_InvalidShare => first | k_is | kernel_rfl)
    (case xm_InvalidShare => first | k_is | kernel_rfl)
    (case em_InvalidShare => first | k_is | kernel_rfl)
    (case kv_InvalidShare => first | k_is | kernel_rfl)
    (case ko_3_0 => first | k_is | kernel_rfl)
    (case ko_3_1 => first | k_is | kernel_rfl)
    (case ko_3_2 => first | k_is | kernel_rfl)
    (case ko_3_3 => first | k_is | kernel_rfl)
    (case ko_3_4 => first | k_is | kernel_rfl)
    (case ko_3_5 => first | k_is | kernel_rfl)
    (case ko_3_6 => first | k_is | kernel_rfl)
    (case ko_3_7 => first | k_is | kernel_rfl)
    (case q_InvalidThings => first | k_is | kernel_rfl)
    (case kx_InvalidThings => k_is)
    (case sb_InvalidThings => first | k_is | kernel_rfl)
    (case ty_InvalidThings => first | k_is | kernel_rfl)
    (case xg_InvalidThings => first | k_is | kernel_rfl)
    (case xk_InvalidThings => first | k_is | kernel_rfl)
    (case xd_InvalidThings => first | k_is | kernel_rfl)
    (case xa_InvalidThings => first | k_is | kernel_rfl)
    (case xm_InvalidThings => first | k_is | kernel_rfl)
    (case em_InvalidThings => first | k_is | kernel_rfl)
    (case kv_InvalidThings => first | k_is | kernel_rfl)
    (case ko_4_0 => first | k_is | kernel_rfl)
    (case ko_4_1 => first | k_is | kernel_rfl)
    (case ko_4_2 => first | k_is | kernel_rfl)
    (case ko_4_3 => first | k_is | kernel_rfl)
    (case ko_4_4 => first | k_is | kernel_rfl)
    (case ko_4_5 => first | k_is | kernel_rfl)
    (case ko_4_6 => first | k_is | kernel_rfl)
    (case ko_4_7 => first | k_is | kernel_rfl)
    (case q_InvalidText => first | k_is | kernel_rfl)
    (case kx_InvalidText => k_is)
    (case sb_InvalidText => first | k_is | kernel_rfl)
    (case ty_InvalidText => first | k_is | kernel_rfl)
    (case xg_InvalidText => first | k_is | kernel_rfl)
    (case xk_InvalidText => first | k_is | kernel_rfl)
    (case xd_InvalidText => first | k_is | kernel_rfl)
    (case xa_InvalidText => first | k_is | kernel_rfl)
    (case xm_InvalidText => first | k_is | kernel_rfl)
    (case em_InvalidText => first | k_is | kernel_rfl)
    (case kv_InvalidText => first | k_is | kernel_rfl)
    (case ko_5_0 => first | k_is | kernel_rfl)
    (case ko_5_1 => first | k_is | kernel_rfl)
    (case ko_5_2 => first | k_is | kernel_rfl)
    (case ko_5_3 => first | k_is | kernel_rfl)
    (case ko_5_4 => first | k_is | kernel_rfl)
    (case ko_5_5 => first | k_is | kernel_rfl)
    (case ko_5_6 => first | k_is | kernel_rfl)
    (case ko_5_7 => first | k_is | kernel_rfl)
    (case q_TooMany => first | k_is | kernel_rfl)
    (case kx_TooMany => k_is)
    (case sb_TooMany => first | k_is | kernel_rfl)
    (case ty_TooMany => first | k_is | kernel_rfl)
    (case xg_TooMany => first | k_is | kernel_rfl)
    (case xk_TooMany => first | k_is | kernel_rfl)
    (case xd_TooMany => first | k_is | kernel_rfl)
    (case xa_TooMany => first | k_is | kernel_rfl)
    (case xm_TooMany => first | k_is | kernel_rfl)
    (case em_TooMany => first | k_is | kernel_rfl)
    (case kv_TooMany => first | k_is | kernel_rfl)
    (case ko_6_0 => first | k_is | kernel_rfl)
    (case ko_6_1 => first | k_is | kernel_rfl)
    (case ko_6_2 => first | k_is | kernel_rfl)
    (case ko_6_3 => first | k_is | kernel_rfl)
    (case ko_6_4 => first | k_is | kernel_rfl)
    (case ko_6_5 => first | k_is | kernel_rfl)
    (case ko_6_6 => first | k_is | kernel_rfl)
    (case ko_6_7 => first | k_is | kernel_rfl)
    (case q_NothingToUndo => first | k_is | kernel_rfl)
    (case kx_NothingToUndo => k_is)
    (case sb_NothingToUndo => first | k_is | kernel_rfl)
    (case ty_NothingToUndo => first | k_is | kernel_rfl)
    (case xg_NothingToUndo => first | k_is | kernel_rfl)
    (case xk_NothingToUndo => first | k_is | kernel_rfl)
    (case xd_NothingToUndo => first | k_is | kernel_rfl)
    (case xa_NothingToUndo => first | k_is | kernel_rfl)
    (case xm_NothingToUndo => first | k_is | kernel_rfl)
    (case em_NothingToUndo => first | k_is | kernel_rfl)
    (case kv_NothingToUndo => first | k_is | kernel_rfl)
    (case ko_7_0 => first | k_is | kernel_rfl)
    (case ko_7_1 => first | k_is | kernel_rfl)
    (case ko_7_2 => first | k_is | kernel_rfl)
    (case ko_7_3 => first | k_is | kernel_rfl)
    (case ko_7_4 => first | k_is | kernel_rfl)
    (case ko_7_5 => first | k_is | kernel_rfl)
    (case ko_7_6 => first | k_is | kernel_rfl)
    (case ko_7_7 => first | k_is | kernel_rfl)
    (case zVE => k_is)
    (case g_PickError => k_is)
    (case n_MOST_THINGS => k_is)
    (case n_MOST_WORTH => k_is)
    (case n_MOST_COMPARED => k_is)
    (case xN => first | k_is | kernel_rfl)
    (case xT => first | k_is | kernel_rfl)
    (case aPl => k_is)
    (case lPl => k_is)
    (case z_all => k_is)
    (case z_any => k_is)
    (case z_sorted => k_is)
    (case z_set => k_is)
    (case z_list => k_is)
    (case z_tuple => k_is)
    (case z_isinstance => k_is)
    (case z_int => k_is)
    (case z_bool => k_is)
    (case z_str => k_is)
    (case z_range => k_is)
    (case z_len => k_is)
    (case z_sum => k_is)
    (case z_min => k_is)
    (case z_max => k_is)
    (case z_enumerate => k_is)
    (case z_abs => k_is)
    (case a_law => k_is)
    (case l_law => k_is)
    (case c_law => k_is)
    (case k_law => k_is)
    (case hT_law => exact PySem.W.km_tabs_of Y _ (List.Mem.tail _ (List.Mem.head _)))
    (case nT_law => kernel_rfl)
    (case hC_law => kernel_rfl)
#print axioms PySem.Challenge.cw_pickcones_k10_errors_apart_holds
