import PyProof.Rows.All
import Wide.All
import OpenK.AllK
import Wide.FinOn
import HandS.ForMost
import HandS.ForExc
import HandS.Flow
import HandS.IsInst
import HandS.TupAny
import HandS.TupSets
import HandS.WideBits
import HandS.Wide
import HandS.Deep
import HandS.SortOrd
import HandS.SortInts
import HandS.NamedTupSort
import HandS.SetFor
import HandS.Strs
import HandS.Lambda
import HandS.OwnEq
import HandS.EndTab
import KE.KNestM
import HandS.HotCalls
import HandS.ExcIs
import HandS.ExcCtx
import HandS.Style
import PySem.Challenge.RW_pickcones_k09_whole_baskets
set_option Elab.async false
set_option linter.all false
set_option maxRecDepth 100000
set_option maxHeartbeats 4000000
/-! Layer A: data by value over the abstract heap; what an expression of the text evaluates to. -/
namespace G9
open PySem L2

/-- a value, tuples and (readable) lists opened; any other thing by its address -/
inductive D where
  | non | bl (b : Bool) | int (i : Int) | str (x : Str) | tup (ds : List D) | lst (ds : List D) | ref (a : Addr) | ty (n : String)

mutual
inductive Rp (K : PySem.W.Frag) (H : Hp) : V → D → Prop
  | non : Rp K H .non .non
  | bl (b : Bool) : Rp K H (.bl b) (.bl b)
  | int (i : Int) : Rp K H (.int i) (.int i)
  | str (x : Str) : Rp K H (.str x) (.str x)
  | ty (n : String) : Rp K H (.ty n) (.ty n)
  | ref (a : Addr) : Rp K H (.ref a) (.ref a)
  | tup {a : Addr} {xs : List V} {ds : List D} : SqT K H a xs → RpL K H xs ds → Rp K H (.ref a) (.tup ds)
  | lst {a : Addr} {xs : List V} {ds : List D} : H a = some (.lst xs) → RpL K H xs ds → Rp K H (.ref a) (.lst ds)
inductive RpL (K : PySem.W.Frag) (H : Hp) : List V → List D → Prop
  | nil : RpL K H [] []
  | cons {v : V} {vs : List V} {d : D} {ds : List D} : Rp K H v d → RpL K H vs ds → RpL K H (v :: vs) (d :: ds)
end

theorem Same.sqT {K : PySem.W.Frag} {H H' : Hp} {a : Addr} {xs : List V} (e : Same H H') (h : SqT K H a xs) : SqT K H' a xs := by
  rcases h with (h | ⟨o, h⟩) | h
  · exact .inl (.inl (e _ _ h))
  · exact .inl (.inr ⟨o, e _ _ h⟩)
  · exact .inr h
theorem Same.new {H : Hp} {p : Addr} {o : HO} (h : H p = none) : Same H (upd H p o) := fun a u e => by
  rw [upd_ne (ne_of_none e h)]
  exact e
theorem Same.mut {H H' : Hp} {p : Addr} {o : HO} (e : Same H H') (h : H p = none) : Same H (upd H' p o) := fun a u ha => by
  rw [upd_ne (ne_of_none ha h)]
  exact e a u ha

mutual
theorem Rp.mono {K : PySem.W.Frag} {H H' : Hp} (e : Same H H') : ∀ (d : D) (v : V), Rp K H v d → Rp K H' v d
  | .non, _, .non => .non
  | .bl b, _, .bl _ => .bl b
  | .int b, _, .int _ => .int b
  | .str b, _, .str _ => .str b
  | .ty b, _, .ty _ => .ty b
  | .ref b, _, .ref _ => .ref b
  | .tup ds, _, .tup h r => .tup (Same.sqT e h) (RpL.mono e ds _ r)
  | .lst ds, _, .lst h r => .lst (e _ _ h) (RpL.mono e ds _ r)
theorem RpL.mono {K : PySem.W.Frag} {H H' : Hp} (e : Same H H') : ∀ (ds : List D) (vs : List V), RpL K H vs ds → RpL K H' vs ds
  | [], _, .nil => .nil
  | d :: ds, _, .cons h r => .cons (Rp.mono e d _ h) (RpL.mono e ds _ r)
end
theorem Rp.up {K : PySem.W.Frag} {H H' : Hp} {v : V} {d : D} (h : Rp K H v d) (e : Same H H') : Rp K H' v d := Rp.mono e d v h
theorem RpL.up {K : PySem.W.Frag} {H H' : Hp} {v : List V} {d : List D} (h : RpL K H v d) (e : Same H H') : RpL K H' v d := RpL.mono e d v h
theorem RpL.length {K : PySem.W.Frag} {H : Hp} : ∀ {vs : List V} {ds : List D}, RpL K H vs ds → vs.length = ds.length
  | _, _, .nil => rfl
  | _, _, .cons _ r => by rw [List.length_cons, List.length_cons, RpL.length r]
theorem RpL.get {K : PySem.W.Frag} {H : Hp} : ∀ {vs : List V} {ds : List D} {i : Nat} {d : D}, RpL K H vs ds → ds[i]? = some d → ∃ v, vs[i]? = some v ∧ Rp K H v d
  | _, _, _, _, .nil, e => by simp at e
  | _, _, 0, _, .cons r _, e => by
    simp at e
    subst e
    exact ⟨_, rfl, r⟩
  | _, _, i + 1, d, .cons _ t, e => by
    obtain ⟨u, h1, h2⟩ := RpL.get (i := i) (d := d) t (by simpa using e)
    exact ⟨u, by simpa using h1, h2⟩
theorem RpL.get' {K : PySem.W.Frag} {H : Hp} {vs : List V} {ds : List D} {i : Nat} {v : V} (h : RpL K H vs ds) (e : vs[i]? = some v) : ∃ d, ds[i]? = some d ∧ Rp K H v d := by
  have hl := h.length
  have hi : i < ds.length := by
    have := (List.getElem?_eq_some_iff.mp e).1
    omega
  obtain ⟨u, h1, h2⟩ := h.get (List.getElem?_eq_getElem hi)
  rw [e] at h1
  cases h1
  exact ⟨_, List.getElem?_eq_getElem hi, h2⟩
theorem RpL.append {K : PySem.W.Frag} {H : Hp} : ∀ {vs ws : List V} {ds es : List D}, RpL K H vs ds → RpL K H ws es → RpL K H (vs ++ ws) (ds ++ es)
  | _, _, _, _, .nil, s => s
  | _, _, _, _, .cons r t, s => .cons r (RpL.append t s)
theorem RpL.one {K : PySem.W.Frag} {H : Hp} {v : V} {d : D} (h : Rp K H v d) : RpL K H [v] [d] := .cons h .nil
theorem RpL.ints {K : PySem.W.Frag} {H : Hp} : ∀ ns : List Int, RpL K H (ns.map V.int) (ns.map D.int)
  | [] => .nil
  | n :: ns => .cons (.int n) (RpL.ints ns)
theorem RpL.ints_of {K : PySem.W.Frag} {H : Hp} : ∀ {ns : List Int} {vs : List V}, RpL K H vs (ns.map D.int) → vs = ns.map V.int
  | [], _, .nil => rfl
  | n :: ns, _, .cons (.int _) r => by rw [RpL.ints_of r, List.map_cons]
theorem RpL.bls_of {K : PySem.W.Frag} {H : Hp} : ∀ {ns : List Bool} {vs : List V}, RpL K H vs (ns.map D.bl) → vs = ns.map V.bl
  | [], _, .nil => rfl
  | n :: ns, _, .cons (.bl _) r => by rw [RpL.bls_of r, List.map_cons]
theorem RpL.strs_of {K : PySem.W.Frag} {H : Hp} : ∀ {ns : List Str} {vs : List V}, RpL K H vs (ns.map D.str) → vs = ns.map V.str
  | [], _, .nil => rfl
  | n :: ns, _, .cons (.str _) r => by rw [RpL.strs_of r, List.map_cons]
theorem Rp.int_of {K : PySem.W.Frag} {H : Hp} {v : V} {i : Int} (h : Rp K H v (.int i)) : v = .int i := by cases h; rfl
theorem Rp.bl_of {K : PySem.W.Frag} {H : Hp} {v : V} {i : Bool} (h : Rp K H v (.bl i)) : v = .bl i := by cases h; rfl
theorem Rp.str_of {K : PySem.W.Frag} {H : Hp} {v : V} {i : Str} (h : Rp K H v (.str i)) : v = .str i := by cases h; rfl
theorem Rp.non_of {K : PySem.W.Frag} {H : Hp} {v : V} (h : Rp K H v .non) : v = .non := by cases h; rfl
theorem Rp.ref_of {K : PySem.W.Frag} {H : Hp} {v : V} {a : Addr} (h : Rp K H v (.ref a)) : v = .ref a := by cases h; rfl
theorem Rp.tup_of {K : PySem.W.Frag} {H : Hp} {v : V} {ds : List D} (h : Rp K H v (.tup ds)) : ∃ a xs, v = .ref a ∧ SqT K H a xs ∧ RpL K H xs ds := by
  cases h with
  | tup h r => exact ⟨_, _, rfl, h, r⟩
theorem Rp.lst_of {K : PySem.W.Frag} {H : Hp} {v : V} {ds : List D} (h : Rp K H v (.lst ds)) : ∃ a xs, v = .ref a ∧ H a = some (.lst xs) ∧ RpL K H xs ds := by
  cases h with
  | lst h r => exact ⟨_, _, rfl, h, r⟩

/-! ### the slots -/
abbrev Ro := List (Option D)
structure En (K : PySem.W.Frag) (H : Hp) (σ : L2.St) (ρ : Ro) : Prop where
  len : σ.length = ρ.length
  at_ : ∀ (i : Nat) (d : D), ρ[i]? = some (some d) → ∃ v, σ[i]? = some (some v) ∧ Rp K H v d
theorem En.up {K : PySem.W.Frag} {H H' : Hp} {σ : L2.St} {ρ : Ro} (h : En K H σ ρ) (e : Same H H') : En K H' σ ρ := ⟨h.len, fun i d q => by
  obtain ⟨v, a, b⟩ := h.at_ i d q
  exact ⟨v, a, b.up e⟩⟩
theorem En.set {K : PySem.W.Frag} {H : Hp} {σ : L2.St} {ρ : Ro} {v : V} {d : D} (i : Nat) (h : En K H σ ρ) (r : Rp K H v d) : En K H (σ.set i (some v)) (ρ.set i (some d)) := by
  refine ⟨by rw [List.length_set, List.length_set, h.len], fun j e q => ?_⟩
  by_cases hj : i = j
  · subst hj
    have hl : i < ρ.length := by
      have := (List.getElem?_eq_some_iff.mp q).1
      rwa [List.length_set] at this
    rw [List.getElem?_set_self hl] at q
    cases q
    exact ⟨v, List.getElem?_set_self (by rw [h.len]; exact hl), r⟩
  · rw [List.getElem?_set_ne hj] at q ⊢
    exact h.at_ j e q
theorem En.unset {K : PySem.W.Frag} {H : Hp} {σ : L2.St} {ρ : Ro} (i : Nat) (h : En K H σ ρ) : En K H (σ.set i none) (ρ.set i none) := by
  refine ⟨by rw [List.length_set, List.length_set, h.len], fun j e q => ?_⟩
  by_cases hj : i = j
  · subst hj
    have hl : i < ρ.length := by
      have := (List.getElem?_eq_some_iff.mp q).1
      rwa [List.length_set] at this
    rw [List.getElem?_set_self hl] at q
    cases q
  · rw [List.getElem?_set_ne hj] at q ⊢
    exact h.at_ j e q
/-- a slot forgotten -/
theorem En.forget {K : PySem.W.Frag} {H : Hp} {σ : L2.St} {ρ ρ' : Ro} (h : En K H σ ρ) (hl : ρ'.length = ρ.length) (hs : ∀ (i : Nat) (d : D), ρ'[i]? = some (some d) → ρ[i]? = some (some d)) : En K H σ ρ' :=
  ⟨by rw [h.len, hl], fun i d q => h.at_ i d (hs i d q)⟩

/-! ### the weakest readings -/
def wE (X : Cx) (e : Expr) : TE := fun σ H Q => ∀ (pins : List (Addr × Obj)) (s : Shared), Inv X pins σ H s → wpAny (model X.prog X.w) X.A (eval e X.env) (EP X pins σ Q) X.xe s
def wT (X : Cx) (e : Expr) : TT := fun σ H Q => ∀ (pins : List (Addr × Obj)) (s : Shared), Inv X pins σ H s → wpAny (model X.prog X.w) X.A (isTrue e X.env (eval e X.env)) (TP X pins σ Q) X.xe s
def wA (X : Cx) (es : List Expr) : TA := fun σ H Q => ∀ (pos : Pos) (pins : List (Addr × Obj)) (s : Shared), Inv X pins σ H s → wpAny (model X.prog X.w) X.A (spliced (backTo pos (starEach es X.env))) (AP X pins σ Q) X.xe s
def wS (X : Cx) (st : Stmt) : TS := fun D σ H => ∀ (pins : List (Addr × Obj)) (s : Shared), Inv X pins σ H s → wpAny (model X.prog X.w) X.A (exec st X.env) (SP X pins D) X.xe s
def wB (X : Cx) (st : List Stmt) : TS := fun D σ H => ∀ (pins : List (Addr × Obj)) (s : Shared), Inv X pins σ H s → wpAny (model X.prog X.w) X.A (execs st X.env) (SP X pins D) X.xe s
section
variable {X : Cx} {e : Expr} {es : List Expr} {st : Stmt} {sts : List Stmt} {σ : L2.St} {H : Hp}
theorem pw : PE X e (wE X e) := ⟨fun pins s _ _ _ I h => h pins s I⟩
theorem ptw : PT X e (wT X e) := ⟨fun pins s _ _ _ I h => h pins s I⟩
theorem paw : PA X es (wA X es) := ⟨fun pos pins s _ _ _ I h => h pos pins s I⟩
theorem psw : PS X st (wS X st) := ⟨fun pins s _ _ _ I h => h pins s I⟩
theorem pbw : PSs X sts (wB X sts) := ⟨fun pins s _ _ _ I h => h pins s I⟩
theorem wE_of {t : TE} {Q : VK} (p : PE X e t) (h : t σ H Q) : wE X e σ H Q := fun pins s I => p.run pins s σ H Q I h
theorem wT_of {t : TT} {Q : Bool → Hp → Prop} (p : PT X e t) (h : t σ H Q) : wT X e σ H Q := fun pins s I => p.run pins s σ H Q I h
theorem wA_of {t : TA} {Q : List V → Hp → Prop} (p : PA X es t) (h : t σ H Q) : wA X es σ H Q := fun pos pins s I => p.run pos pins s σ H Q I h
theorem wS_of {t : TS} {D : Ends} (p : PS X st t) (h : t D σ H) : wS X st D σ H := fun pins s I => p.run pins s σ H D I h
theorem wB_of {t : TS} {D : Ends} (p : PSs X sts t) (h : t D σ H) : wB X sts D σ H := fun pins s I => p.run pins s σ H D I h
end

/-! ### heaps: G, the part that is leant on, of H; both grow -/
structure Fr (G H G' H' : Hp) : Prop where
  h : Same H H'
  g : Same G G'
  s : Same G' H'
  n : ∀ a, G a = none → H a ≠ none → G' a = none
abbrev Nil : Hp := fun _ => none
theorem same_nil {G : Hp} : Same Nil G := fun _ _ e => nomatch e
theorem Fr.refl {G H : Hp} (s : Same G H) : Fr G H G H := ⟨Same.refl _, Same.refl _, s, fun _ e _ => e⟩
theorem Fr.trans {G H G1 H1 G2 H2 : Hp} (a : Fr G H G1 H1) (b : Fr G1 H1 G2 H2) : Fr G H G2 H2 :=
  ⟨a.h.trans b.h, a.g.trans b.g, b.s, fun x e1 e2 => b.n x (a.n x e1 e2) fun z => by
    cases q : H x with
    | none => exact e2 q
    | some o =>
      rw [a.h x o q] at z
      cases z⟩
theorem Fr.new {G H : Hp} {p : Addr} {o : HO} (s : Same G H) (hp : H p = none) : Fr G H (upd G p o) (upd H p o) :=
  ⟨Same.new hp, Same.new (s.free hp), fun a u e => by
    by_cases ha : a = p
    · subst ha
      rw [upd_same] at e ⊢
      exact e
    · rw [upd_ne ha] at e ⊢
      exact s a u e, fun a e1 e2 => by
    have ha : a ≠ p := fun z => e2 (by rw [z]; exact hp)
    rw [upd_ne ha]
    exact e1⟩
theorem Fr.newH {G H : Hp} {p : Addr} {o : HO} (s : Same G H) (hp : H p = none) : Fr G H G (upd H p o) := ⟨Same.new hp, Same.refl _, s.trans (Same.new hp), fun _ e _ => e⟩
theorem Fr.keep {G H H' : Hp} (s : Same G H) (h : Same H H') : Fr G H G H' := ⟨h, Same.refl _, s.trans h, fun _ e _ => e⟩
/-- what G does not know stays unknown to it -/
theorem Fr.out {G H G' H' : Hp} {l : Addr} {o : HO} (f : Fr G H G' H') (h1 : G l = none) (h2 : H l = some o) : G' l = none ∧ H' l = some o := ⟨f.n l h1 (by rw [h2]; exact fun z => nomatch z), f.h l o h2⟩
/-- a thing outside G is changed -/
theorem Fr.mut {G H G' H' : Hp} {l : Addr} {o : HO} (f : Fr G H G' H') (h0 : H l = none) (h1 : G' l = none) : Fr G H G' (upd H' l o) := ⟨Same.mut f.h h0, f.g, Same.mut f.s h1, f.n⟩
/-- a thing is added to G -/
theorem Fr.add {G H G' H' : Hp} {l : Addr} {o : HO} (f : Fr G H G' H') (h0 : H l = none) (h1 : G' l = none) (h2 : H' l = some o) : Fr G H (upd G' l o) H' := ⟨f.h, f.g.trans (Same.new h1), fun a u e => by
    by_cases ha : a = l
    · subst ha
      rw [upd_same] at e
      rw [h2]
      exact e
    · rw [upd_ne ha] at e
      exact f.s a u e, fun a e1 e2 => by
    have ha : a ≠ l := fun z => e2 (by rw [z]; exact h0)
    rw [upd_ne ha]
    exact f.n a e1 e2⟩

/-! ### what evaluates to what; H0: what is leant on beside the slots -/
def Ev (X : Cx) (H0 : Hp) (ρ : Ro) (e : Expr) (d : D) : Prop := ∀ (σ : L2.St) (G H : Hp), Same H0 G → Same G H → En X.K G σ ρ → ∀ Q : VK, (∀ v G' H', Fr G H G' H' → Rp X.K G' v d → Q v H') → wE X e σ H Q
/-- to a new list -/
def EvL (X : Cx) (H0 : Hp) (ρ : Ro) (e : Expr) (ds : List D) : Prop := ∀ (σ : L2.St) (G H : Hp), Same H0 G → Same G H → En X.K G σ ρ → ∀ Q : VK, (∀ l vs G' H', Fr G H G' H' → H l = none → G' l = none → H' l = some (.lst vs) → RpL X.K G' vs ds → Q (.ref l) H') → wE X e σ H Q
def EvT (X : Cx) (H0 : Hp) (ρ : Ro) (e : Expr) (b : Bool) : Prop := ∀ (σ : L2.St) (G H : Hp), Same H0 G → Same G H → En X.K G σ ρ → ∀ Q : Bool → Hp → Prop, (∀ G' H', Fr G H G' H' → Q b H') → wT X e σ H Q
def EvA (X : Cx) (H0 : Hp) (ρ : Ro) (es : List Expr) (ds : List D) : Prop := ∀ (σ : L2.St) (G H : Hp), Same H0 G → Same G H → En X.K G σ ρ → ∀ Q : List V → Hp → Prop, (∀ vs G' H', Fr G H G' H' → RpL X.K G' vs ds → Q vs H') → wA X es σ H Q
/-- by values -/
def Rd2 (K : PySem.W.Frag) (H0 : Hp) (r : R2) (a b d : D) : Prop := ∀ (x y : V) (G H : Hp), Same H0 G → Same G H → Rp K G x a → Rp K G y b → ∀ Q : VK, (∀ v G' H', Fr G H G' H' → Rp K G' v d → Q v H') → r x y H Q
def Rd2L (K : PySem.W.Frag) (H0 : Hp) (r : R2) (a b : D) (ds : List D) : Prop := ∀ (x y : V) (G H : Hp), Same H0 G → Same G H → Rp K G x a → Rp K G y b → ∀ Q : VK, (∀ l vs G' H', Fr G H G' H' → H l = none → G' l = none → H' l = some (.lst vs) → RpL K G' vs ds → Q (.ref l) H') → r x y H Q
def Rd1 (K : PySem.W.Frag) (H0 : Hp) (r : V → Hp → VK → Prop) (a d : D) : Prop := ∀ (x : V) (G H : Hp), Same H0 G → Same G H → Rp K G x a → ∀ Q : VK, (∀ v G' H', Fr G H G' H' → Rp K G' v d → Q v H') → r x H Q
def RdC (K : PySem.W.Frag) (H0 : Hp) (r : List V → Hp → VK → Prop) (as : List D) (d : D) : Prop := ∀ (xs : List V) (G H : Hp), Same H0 G → Same G H → RpL K G xs as → ∀ Q : VK, (∀ v G' H', Fr G H G' H' → Rp K G' v d → Q v H') → r xs H Q
def RdCL (K : PySem.W.Frag) (H0 : Hp) (r : List V → Hp → VK → Prop) (as : List D) (ds : List D) : Prop := ∀ (xs : List V) (G H : Hp), Same H0 G → Same G H → RpL K G xs as → ∀ Q : VK, (∀ l vs G' H', Fr G H G' H' → H l = none → G' l = none → H' l = some (.lst vs) → RpL K G' vs ds → Q (.ref l) H') → r xs H Q
section
variable {X : Cx} {H0 H1 : Hp} {ρ : Ro} {a b c e : Expr} {es : List Expr} {da db d : D} {ds : List D} {pos p : Pos} {x : Str}
theorem Ev.up (h : Ev X H0 ρ e d) (s : Same H0 H1) : Ev X H1 ρ e d := fun σ G H sg sh en Q q => h σ G H (s.trans sg) sh en Q q
theorem EvL.up (h : EvL X H0 ρ e ds) (s : Same H0 H1) : EvL X H1 ρ e ds := fun σ G H sg sh en Q q => h σ G H (s.trans sg) sh en Q q
theorem EvT.up {k : Bool} (h : EvT X H0 ρ e k) (s : Same H0 H1) : EvT X H1 ρ e k := fun σ G H sg sh en Q q => h σ G H (s.trans sg) sh en Q q
theorem EvA.up (h : EvA X H0 ρ es ds) (s : Same H0 H1) : EvA X H1 ρ es ds := fun σ G H sg sh en Q q => h σ G H (s.trans sg) sh en Q q
theorem Ev.is {d' : D} (h : Ev X H0 ρ e d) (q : d = d') : Ev X H0 ρ e d' := q ▸ h
theorem EvL.is {d' : List D} (h : EvL X H0 ρ e ds) (q : ds = d') : EvL X H0 ρ e d' := q ▸ h
theorem EvT.is {k k' : Bool} (h : EvT X H0 ρ e k) (q : k = k') : EvT X H0 ρ e k' := q ▸ h
/-- a new list, as a value -/
theorem EvL.ev (h : EvL X H0 ρ e ds) : Ev X H0 ρ e (.lst ds) := fun σ G H sg sh en Q q => h σ G H sg sh en Q fun l vs G' H' f hl gl hl' r =>
  q _ _ _ (f.add hl gl hl') (.lst upd_same (r.up (Same.new gl)))
theorem Rd2L.ev {r : R2} (h : Rd2L X.K H0 r da db ds) : Rd2 X.K H0 r da db (.lst ds) := fun x y G H sg sh rx ry Q q => h x y G H sg sh rx ry Q fun l vs G' H' f hl gl hl' r =>
  q _ _ _ (f.add hl gl hl') (.lst upd_same (r.up (Same.new gl)))
theorem RdCL.ev {r : List V → Hp → VK → Prop} {as : List D} (h : RdCL X.K H0 r as ds) : RdC X.K H0 r as (.lst ds) := fun x G H sg sh rx Q q => h x G H sg sh rx Q fun l vs G' H' f hl gl hl' r =>
  q _ _ _ (f.add hl gl hl') (.lst upd_same (r.up (Same.new gl)))
/-- constants, names -/
theorem e_int {i : Int} {j} : Ev X H0 ρ (.Constant (.int i) j pos) (.int i) := fun σ G H _ s _ Q q => wE_of pe_int (q _ _ _ (Fr.refl s) (.int i))
theorem e_bl {i : Bool} {j} : Ev X H0 ρ (.Constant (.bool i) j pos) (.bl i) := fun σ G H _ s _ Q q => wE_of pe_bl (q _ _ _ (Fr.refl s) (.bl i))
theorem e_str {i : Str} {j} : Ev X H0 ρ (.Constant (.str i) j pos) (.str i) := fun σ G H _ s _ Q q => wE_of pe_str (q _ _ _ (Fr.refl s) (.str i))
theorem e_non {j} : Ev X H0 ρ (.Constant .none j pos) .non := fun σ G H _ s _ Q q => wE_of pe_non (q _ _ _ (Fr.refl s) .non)
theorem e_v (i : Nat) (hr : ρ[i]? = some (some d) := by rfl) (hN : X.N[i]? = some x := by rfl) (hv : Vis X.env.scope x := by first | exact Or.inl rfl | exact Or.inr (Or.inl rfl) | exact Or.inr (Or.inr rfl)) (hd : (x == ("__debug__" : Str)) = false := by decide)
    (hcd : (x == ("__classdict__" : Str)) = false := by decide) : Ev X H0 ρ (.Name x pos) d := fun σ G H _ s en Q q => by
  obtain ⟨v, h1, h2⟩ := en.at_ i d hr
  exact wE_of (pe_var hN hv hd hcd) ⟨v, h1, q _ _ _ (Fr.refl s) h2⟩
theorem e_glob {v : V} {u : Value} (hm : X.mg x = some u) (r : RelV v u) (hd : ∀ H, Rp X.K H v d) (hg : Gl X x := by rfl) (hdb : (x == ("__debug__" : Str)) = false := by decide) : Ev X H0 ρ (.Name x pos) d := fun σ G H _ s _ Q q =>
  wE_of (pe_glob hg hm r hdb) (q _ _ _ (Fr.refl s) (hd _))
theorem e_ty {n : String} (hm : X.mg x = none) (hv : bootBuiltins x = some (.type n) := by decide +kernel) (hg : Gl X x := by rfl) (hn : x ≠ "__name__" := by decide) (hdb : (x == ("__debug__" : Str)) = false := by decide) : Ev X H0 ρ (.Name x pos) (.ty n) := fun σ G H _ s _ Q q =>
  wE_of (pe_bltn (v := .ty n) hg hm hv rfl hn hdb) (q _ _ _ (Fr.refl s) (.ty n))
/-- two in a row -/
theorem two (ha : Ev X H0 ρ a da) (hb : Ev X H0 ρ b db) {σ : L2.St} {G H : Hp} (sg : Same H0 G) (sh : Same G H) (en : En X.K G σ ρ) {R : V → V → Hp → Prop} (q : ∀ x y G' H', Fr G H G' H' → Rp X.K G' x da → Rp X.K G' y db → R x y H') :
    wE X a σ H fun x H1 => wE X b σ H1 fun y H2 => R x y H2 :=
  ha σ G H sg sh en _ fun v G1 H1 f1 r1 => hb σ G1 H1 (sg.trans f1.g) f1.s (en.up f1.g) _ fun u G2 H2 f2 r2 => q v u G2 H2 (f1.trans f2) (r1.up f2.g) r2
/-- operators -/
theorem e_op {op : Operator} {r : R2} (ho : OpR X (binaryOp op) r) (ha : Ev X H0 ρ a da) (hb : Ev X H0 ρ b db) (hr : Rd2 X.K H0 r da db d) : Ev X H0 ρ (.BinOp a op b pos) d := fun σ G H sg sh en Q q =>
  wE_of (pe_op ho pw pw) (two ha hb sg sh en fun x y G1 H1 f1 r1 r2 => hr x y G1 H1 (sg.trans f1.g) f1.s r1 r2 Q fun z G3 H3 f3 r3 => q z G3 H3 (f1.trans f3) r3)
theorem l_op {op : Operator} {r : R2} (ho : OpR X (binaryOp op) r) (ha : Ev X H0 ρ a da) (hb : Ev X H0 ρ b db) (hr : Rd2L X.K H0 r da db ds) : EvL X H0 ρ (.BinOp a op b pos) ds := fun σ G H sg sh en Q q =>
  wE_of (pe_op ho pw pw) (two ha hb sg sh en fun x y G1 H1 f1 r1 r2 => hr x y G1 H1 (sg.trans f1.g) f1.s r1 r2 Q fun l vs G3 H3 f3 hl gl hl' r3 => q l vs G3 H3 (f1.trans f3) (f1.h.free hl) gl hl' r3)
theorem e_cmp {op : CmpOp} {r : R2} (ho : OpR X (compareOp op) r) (ha : Ev X H0 ρ a da) (hb : Ev X H0 ρ b db) (hr : Rd2 X.K H0 r da db d) (hm : behindInMarks op b = false := by first | exact nomark _ | rfl) : Ev X H0 ρ (.Compare a [op] [b] pos) d := fun σ G H sg sh en Q q =>
  wE_of (pe_cmpR ho pw pw hm) (two ha hb sg sh en fun x y G1 H1 f1 r1 r2 => hr x y G1 H1 (sg.trans f1.g) f1.s r1 r2 Q fun z G3 H3 f3 r3 => q z G3 H3 (f1.trans f3) r3)
theorem e_un {op : UnaryOp} {r : V → Hp → VK → Prop} (ho : UnR X (unaryOp op) r) (ha : Ev X H0 ρ a da) (hr : Rd1 X.K H0 r da d) : Ev X H0 ρ (.UnaryOp op a pos) d := fun σ G H sg sh en Q q =>
  wE_of (pe_un ho pw) (ha σ G H sg sh en _ fun v G1 H1 f1 r1 => hr v G1 H1 (sg.trans f1.g) f1.s r1 Q fun z G3 H3 f3 r3 => q z G3 H3 (f1.trans f3) r3)
theorem e_ix {r : R2} (ho : IxR X r) (ha : Ev X H0 ρ a da) (hb : Ev X H0 ρ b db) (hr : Rd2 X.K H0 r da db d) (hs : PlainIx b := by exact fun _ _ => rfl) : Ev X H0 ρ (.Subscript a b pos) d := fun σ G H sg sh en Q q =>
  wE_of (pe_ix ho pw pw hs) (two ha hb sg sh en fun x y G1 H1 f1 r1 r2 => hr x y G1 H1 (sg.trans f1.g) f1.s r1 r2 Q fun z G3 H3 f3 r3 => q z G3 H3 (f1.trans f3) r3)
theorem e_chain {op op' : CmpOp} {r r' : R2} {k : Bool} {dc : D} {k2 : Bool} (p1 : PE X (.Compare a [op, op'] [b, c] pos) (tChain r r' (wE X a) (wE X b) (wE X c))) (ha : Ev X H0 ρ a da) (hb : Ev X H0 ρ b db) (hr : Rd2 X.K H0 r da db (.bl k)) (hc : k = true → Ev X H0 ρ c dc) (hr' : k = true → Rd2 X.K H0 r' db dc (.bl k2)) :
    Ev X H0 ρ (.Compare a [op, op'] [b, c] pos) (.bl (k && k2)) := fun σ G H sg sh en Q q =>
  wE_of p1 (two ha hb sg sh en fun x y G1 H1 f1 r1 r2 => hr x y G1 H1 (sg.trans f1.g) f1.s r1 r2 _ fun z G3 H3 f3 r3 => by
    have f13 := f1.trans f3
    refine ⟨k, r3.bl_of, ?_⟩
    cases k with
    | false =>
      rw [if_neg (by decide)]
      exact q _ G3 H3 f13 (.bl _)
    | true =>
      rw [if_pos rfl]
      exact hc rfl σ G3 H3 (sg.trans f13.g) f13.s (en.up f13.g) _ fun w G4 H4 f4 r4 => hr' rfl y w G4 H4 ((sg.trans f13.g).trans f4.g) f4.s (r2.up (f3.g.trans f4.g)) r4 Q fun z G5 H5 f5 r5 => q z G5 H5 ((f13.trans f4).trans f5) r5)
/-- and, or, not as values; conditional expressions -/
theorem e_and {rest : List Expr} {k l : Bool} (ha : Ev X H0 ρ a (.bl k)) (hb : k = true → Ev X H0 ρ (.BoolOp .And (b :: rest) pos) (.bl l)) : Ev X H0 ρ (.BoolOp .And (a :: b :: rest) pos) (.bl (k && l)) := fun σ G H sg sh en Q q =>
  wE_of (pe_and pw pw) (ha σ G H sg sh en _ fun v G1 H1 f1 r1 => ⟨k, r1.bl_of, by
    cases k with
    | true =>
      rw [if_pos rfl]
      exact hb rfl σ G1 H1 (sg.trans f1.g) f1.s (en.up f1.g) Q fun z G3 H3 f3 r3 => q z G3 H3 (f1.trans f3) r3
    | false =>
      rw [if_neg (by decide)]
      exact q _ G1 H1 f1 (.bl _)⟩)
theorem e_or {rest : List Expr} {k l : Bool} (ha : Ev X H0 ρ a (.bl k)) (hb : k = false → Ev X H0 ρ (.BoolOp .Or (b :: rest) pos) (.bl l)) : Ev X H0 ρ (.BoolOp .Or (a :: b :: rest) pos) (.bl (k || l)) := fun σ G H sg sh en Q q =>
  wE_of (pe_or pw pw) (ha σ G H sg sh en _ fun v G1 H1 f1 r1 => ⟨k, r1.bl_of, by
    cases k with
    | false =>
      rw [if_neg (by decide)]
      exact hb rfl σ G1 H1 (sg.trans f1.g) f1.s (en.up f1.g) Q fun z G3 H3 f3 r3 => q z G3 H3 (f1.trans f3) r3
    | true =>
      rw [if_pos rfl]
      exact q _ G1 H1 f1 (.bl _)⟩)
theorem e_one {op : BoolOp} (ha : Ev X H0 ρ a d) : Ev X H0 ρ (.BoolOp op [a] pos) d := fun σ G H sg sh en Q q => wE_of (pe_one pw) (ha σ G H sg sh en Q q)
theorem e_not {k : Bool} (ha : Ev X H0 ρ a (.bl k)) : Ev X H0 ρ (.UnaryOp .Not a pos) (.bl (!k)) := fun σ G H sg sh en Q q =>
  wE_of (pe_not pw) (ha σ G H sg sh en _ fun v G1 H1 f1 r1 => ⟨k, r1.bl_of, q _ G1 H1 f1 (.bl _)⟩)
theorem e_if {k : Bool} (hc : EvT X H0 ρ c k) (ha : k = true → Ev X H0 ρ a d) (hb : k = false → Ev X H0 ρ b d) : Ev X H0 ρ (.IfExp c a b pos) d := fun σ G H sg sh en Q q =>
  wE_of (pe_ifExp ptw pw pw) (hc σ G H sg sh en _ fun G1 H1 f1 => by
    cases k with
    | true =>
      rw [if_pos rfl]
      exact ha rfl σ G1 H1 (sg.trans f1.g) f1.s (en.up f1.g) Q fun z G3 H3 f3 r3 => q z G3 H3 (f1.trans f3) r3
    | false =>
      rw [if_neg (by decide)]
      exact hb rfl σ G1 H1 (sg.trans f1.g) f1.s (en.up f1.g) Q fun z G3 H3 f3 r3 => q z G3 H3 (f1.trans f3) r3)
/-- argument lists, displays -/
theorem a_nil : EvA X H0 ρ [] [] := fun σ G H _ s en Q q => wA_of pa_nil (q _ _ _ (Fr.refl s) .nil)
theorem a_cons (ha : Ev X H0 ρ e d) (hr : EvA X H0 ρ es ds) (hs : starEach (e :: es) X.env = (false, eval e X.env) :: starEach es X.env := by rfl) : EvA X H0 ρ (e :: es) (d :: ds) := fun σ G H sg sh en Q q =>
  wA_of (pa_cons pw paw hs) (ha σ G H sg sh en _ fun v G1 H1 f1 r1 => hr σ G1 H1 (sg.trans f1.g) f1.s (en.up f1.g) _ fun vs G2 H2 f2 r2 => q _ G2 H2 (f1.trans f2) (.cons (r1.up f2.g) r2))
theorem e_tup {k} (h : EvA X H0 ρ es ds) (hz : ds.length ≤ 100000 := by decide) : Ev X H0 ρ (.Tuple es k pos) (.tup ds) := fun σ G H sg sh en Q q =>
  wE_of (pe_tup paw) (h σ G H sg sh en _ fun vs G1 H1 f1 r1 => ⟨by rw [r1.length]; exact Nat.le_trans hz (by decide), fun p hp => q _ _ _ (f1.trans (Fr.new f1.s hp)) (.tup (.inl (.inl upd_same)) (r1.up (Same.new (f1.s.free hp))))⟩)
theorem l_lst (h : EvA X H0 ρ es ds) (hz : ds.length ≤ 100000 := by decide) : EvL X H0 ρ (.List es pos) ds := fun σ G H sg sh en Q q =>
  wE_of (pe_lst paw) (h σ G H sg sh en _ fun vs G1 H1 f1 r1 => ⟨by rw [r1.length]; exact Nat.le_trans hz (by decide), fun p hp => q p vs G1 _ (f1.trans (Fr.newH f1.s hp)) (f1.h.free hp) (f1.s.free hp) upd_same r1⟩)
/-- built-in functions and types -/
theorem e_callB {id : String} {r : List V → Hp → VK → Prop} (hc : CallR X (.builtin id) r) (hm : X.mg x = none) (ha : EvA X H0 ρ (e :: es) ds) (hr : RdC X.K H0 r ds d) (hv : bootBuiltins x = some (.builtin id) := by decide +kernel) (hg : Gl X x := by rfl)
    (hn : x ≠ "__name__" := by decide) (hdb : (x == ("__debug__" : Str)) = false := by decide) (he : starEach (e :: es) X.env = (false, eval e X.env) :: starEach es X.env := by rfl) (hpl : (backTo pos (starEach es X.env)).any (·.1) = false := by rfl) :
    Ev X H0 ρ (.Call (.Name x p) (e :: es) [] pos) d := fun σ G H sg sh en Q q =>
  wE_of (pe_callB hc hg hm hv paw hn hdb he hpl) (ha σ G H sg sh en _ fun vs G1 H1 f1 r1 => hr vs G1 H1 (sg.trans f1.g) f1.s r1 Q fun v G2 H2 f2 r2 => q v G2 H2 (f1.trans f2) r2)
theorem l_callB {id : String} {r : List V → Hp → VK → Prop} {as : List D} (hc : CallR X (.builtin id) r) (hm : X.mg x = none) (ha : EvA X H0 ρ (e :: es) as) (hr : RdCL X.K H0 r as ds) (hv : bootBuiltins x = some (.builtin id) := by decide +kernel) (hg : Gl X x := by rfl)
    (hn : x ≠ "__name__" := by decide) (hdb : (x == ("__debug__" : Str)) = false := by decide) (he : starEach (e :: es) X.env = (false, eval e X.env) :: starEach es X.env := by rfl) (hpl : (backTo pos (starEach es X.env)).any (·.1) = false := by rfl) :
    EvL X H0 ρ (.Call (.Name x p) (e :: es) [] pos) ds := fun σ G H sg sh en Q q =>
  wE_of (pe_callB hc hg hm hv paw hn hdb he hpl) (ha σ G H sg sh en _ fun vs G1 H1 f1 r1 => hr vs G1 H1 (sg.trans f1.g) f1.s r1 Q fun l vs G3 H3 f3 hl gl hl' r3 => q l vs G3 H3 (f1.trans f3) (f1.h.free hl) gl hl' r3)
theorem e_callT {T : String} {r : List V → Hp → VK → Prop} (hc : CallR X (.type T) r) (hm : X.mg x = none) (ha : EvA X H0 ρ (e :: es) ds) (hr : RdC X.K H0 r ds d) (hv : bootBuiltins x = some (.type T) := by decide +kernel) (hg : Gl X x := by rfl)
    (hn : x ≠ "__name__" := by decide) (hdb : (x == ("__debug__" : Str)) = false := by decide) (he : starEach (e :: es) X.env = (false, eval e X.env) :: starEach es X.env := by rfl) (hpl : (backTo pos (starEach es X.env)).any (·.1) = false := by rfl) :
    Ev X H0 ρ (.Call (.Name x p) (e :: es) [] pos) d := fun σ G H sg sh en Q q =>
  wE_of (pe_callTy hc hg hm hv paw hn hdb he hpl) (ha σ G H sg sh en _ fun vs G1 H1 f1 r1 => hr vs G1 H1 (sg.trans f1.g) f1.s r1 Q fun v G2 H2 f2 r2 => q v G2 H2 (f1.trans f2) r2)
theorem l_callT {T : String} {r : List V → Hp → VK → Prop} {as : List D} (hc : CallR X (.type T) r) (hm : X.mg x = none) (ha : EvA X H0 ρ (e :: es) as) (hr : RdCL X.K H0 r as ds) (hv : bootBuiltins x = some (.type T) := by decide +kernel) (hg : Gl X x := by rfl)
    (hn : x ≠ "__name__" := by decide) (hdb : (x == ("__debug__" : Str)) = false := by decide) (he : starEach (e :: es) X.env = (false, eval e X.env) :: starEach es X.env := by rfl) (hpl : (backTo pos (starEach es X.env)).any (·.1) = false := by rfl) :
    EvL X H0 ρ (.Call (.Name x p) (e :: es) [] pos) ds := fun σ G H sg sh en Q q =>
  wE_of (pe_callTy hc hg hm hv paw hn hdb he hpl) (ha σ G H sg sh en _ fun vs G1 H1 f1 r1 => hr vs G1 H1 (sg.trans f1.g) f1.s r1 Q fun l vs G3 H3 f3 hl gl hl' r3 => q l vs G3 H3 (f1.trans f3) (f1.h.free hl) gl hl' r3)
/-- tests -/
theorem t_val {k : Bool} (h : Ev X H0 ρ e (.bl k)) (he : ∀ whole, isTrue e X.env whole = (do let v ← whole; standAt e.pos; holding [v] (truthy v)) := by intro _; rfl) : EvT X H0 ρ e k := fun σ G H sg sh en Q q =>
  wT_of (pt_val pw he) (h σ G H sg sh en _ fun v G1 H1 f1 r1 => ⟨k, r1.bl_of, q G1 H1 f1⟩)
theorem t_cmp {op : CmpOp} {r : R2} {k : Bool} (ho : OpR X (compareOp op) r) (ha : Ev X H0 ρ a da) (hb : Ev X H0 ρ b db) (hr : Rd2 X.K H0 r da db (.bl k)) (hm : behindInMarks op b = false := by first | exact nomark _ | rfl) : EvT X H0 ρ (.Compare a [op] [b] pos) k := fun σ G H sg sh en Q q =>
  wT_of (pt_cmpR ho pw pw hm) (two ha hb sg sh en fun x y G1 H1 f1 r1 r2 => hr x y G1 H1 (sg.trans f1.g) f1.s r1 r2 _ fun z G3 H3 f3 r3 => ⟨k, r3.bl_of, q G3 H3 (f1.trans f3)⟩)
theorem t_not {k : Bool} (h : EvT X H0 ρ a k) : EvT X H0 ρ (.UnaryOp .Not a pos) (!k) := fun σ G H sg sh en Q q => wT_of (pt_not ptw) (h σ G H sg sh en _ fun G1 H1 f1 => q G1 H1 f1)
end
/-- and, or as tests -/
def wW (X : Cx) (e : Expr) : TT := fun σ H Q => ∀ (whole : Sem Value) (pins : List (Addr × Obj)) (s : Shared), Inv X pins σ H s → wpAny (model X.prog X.w) X.A (isTrue e X.env whole) (TP X pins σ Q) X.xe s
theorem pww {X : Cx} {e : Expr} : PW X e (wW X e) := ⟨fun whole pins s _ _ _ I h => h whole pins s I⟩
theorem wW_of {X : Cx} {e : Expr} {σ : L2.St} {H : Hp} {t : TT} {Q : Bool → Hp → Prop} (p : PW X e t) (h : t σ H Q) : wW X e σ H Q := fun whole pins s I => p.run whole pins s σ H Q I h
def EvW (X : Cx) (H0 : Hp) (ρ : Ro) (e : Expr) (b : Bool) : Prop := ∀ (σ : L2.St) (G H : Hp), Same H0 G → Same G H → En X.K G σ ρ → ∀ Q : Bool → Hp → Prop, (∀ G' H', Fr G H G' H' → Q b H') → wW X e σ H Q
section
variable {X : Cx} {H0 H1 : Hp} {ρ : Ro} {a b c e : Expr} {es rest : List Expr} {da db d : D} {ds : List D} {pos p : Pos} {x : Str} {k l : Bool}
theorem EvW.t (h : EvW X H0 ρ e k) : EvT X H0 ρ e k := fun σ G H sg sh en Q q => wT_of (PW.pt pww) (h σ G H sg sh en Q q)
theorem w_and1 (h : EvT X H0 ρ a k) : EvW X H0 ρ (.BoolOp .And [a] pos) k := fun σ G H sg sh en Q q => wW_of (pw_and1 ptw) (h σ G H sg sh en Q q)
theorem w_or1 (h : EvT X H0 ρ a k) : EvW X H0 ρ (.BoolOp .Or [a] pos) k := fun σ G H sg sh en Q q => wW_of (pw_or1 ptw) (h σ G H sg sh en Q q)
theorem w_and (h : EvT X H0 ρ a k) (hb : k = true → EvW X H0 ρ (.BoolOp .And (b :: rest) pos) l) : EvW X H0 ρ (.BoolOp .And (a :: b :: rest) pos) (k && l) := fun σ G H sg sh en Q q =>
  wW_of (pw_and ptw pww) (h σ G H sg sh en _ fun G1 H1 f1 => by
    cases k with
    | true => exact hb rfl σ G1 H1 (sg.trans f1.g) f1.s (en.up f1.g) Q fun G3 H3 f3 => q G3 H3 (f1.trans f3)
    | false => exact q G1 H1 f1)
theorem w_or (h : EvT X H0 ρ a k) (hb : k = false → EvW X H0 ρ (.BoolOp .Or (b :: rest) pos) l) : EvW X H0 ρ (.BoolOp .Or (a :: b :: rest) pos) (k || l) := fun σ G H sg sh en Q q =>
  wW_of (pw_or ptw pww) (h σ G H sg sh en _ fun G1 H1 f1 => by
    cases k with
    | false => exact hb rfl σ G1 H1 (sg.trans f1.g) f1.s (en.up f1.g) Q fun G3 H3 f3 => q G3 H3 (f1.trans f3)
    | true => exact q G1 H1 f1)
theorem t_and2 (h : EvT X H0 ρ a k) (hb : k = true → EvT X H0 ρ b l) : EvT X H0 ρ (.BoolOp .And [a, b] pos) (k && l) := (w_and h fun q => w_and1 (hb q)).t
theorem t_or2 (h : EvT X H0 ρ a k) (hb : k = false → EvT X H0 ρ b l) : EvT X H0 ρ (.BoolOp .Or [a, b] pos) (k || l) := (w_or h fun q => w_or1 (hb q)).t
theorem t_and3 {m : Bool} (h : EvT X H0 ρ a k) (hb : k = true → EvT X H0 ρ b l) (hc : k = true → l = true → EvT X H0 ρ c m) : EvT X H0 ρ (.BoolOp .And [a, b, c] pos) (k && (l && m)) := (w_and h fun q => w_and (hb q) fun q2 => w_and1 (hc q q2)).t
theorem t_or3 {m : Bool} (h : EvT X H0 ρ a k) (hb : k = false → EvT X H0 ρ b l) (hc : k = false → l = false → EvT X H0 ρ c m) : EvT X H0 ρ (.BoolOp .Or [a, b, c] pos) (k || (l || m)) := (w_or h fun q => w_or (hb q) fun q2 => w_or1 (hc q q2)).t
end

/-! ### comprehensions -/
def wipeD (ρ : Ro) : List Nat → Ro
  | [] => ρ
  | v :: vs => (wipeD ρ vs).set v none
theorem En.wipe {K : PySem.W.Frag} {H : Hp} {σ : L2.St} {ρ : Ro} (h : En K H σ ρ) : ∀ vs : List Nat, En K H (wipe σ vs) (wipeD ρ vs)
  | [] => h
  | v :: vs => En.unset v (En.wipe h vs)
/-- a clause's tests -/
def wTs (X : Cx) (ifs : List Expr) : TT := fun σ H Q => ∀ (pins : List (Addr × Obj)) (s : Shared), Inv X pins σ H s →
    wpAny (model X.prog X.w) X.A (forIn ifs true fun c r => if r = true then do let ok ← isTrue c X.env (eval c X.env); pure (ForInStep.yield ok) else pure (ForInStep.yield r)) (TP X pins σ Q) X.xe s
def EvTs (X : Cx) (H0 : Hp) (ρ : Ro) (es : List Expr) (b : Bool) : Prop := ∀ (σ : L2.St) (G H : Hp), Same H0 G → Same G H → En X.K G σ ρ → ∀ Q : Bool → Hp → Prop, (∀ G' H', Fr G H G' H' → Q b H') → wTs X es σ H Q
theorem ts_nil {X : Cx} {H0 : Hp} {ρ : Ro} : EvTs X H0 ρ [] true := fun σ G H sg sh en Q q pins s I => pts_nil.run pins s σ H Q I (q G H (Fr.refl sh))
theorem ts_one {X : Cx} {H0 : Hp} {ρ : Ro} {c : Expr} {b : Bool} (h : EvT X H0 ρ c b) : EvTs X H0 ρ [c] b := fun σ G H sg sh en Q q pins s I => (pts_one (ptw (e := c))).run pins s σ H Q I (h σ G H sg sh en Q q)
/-- what is made of the first i items -/
def madeD {α : Type} (f : α → Bool) (g : α → D) (xs : List α) (i : Nat) : List D := ((xs.take i).filter f).map g
theorem made_len {α : Type} {f : α → Bool} {g : α → D} {xs : List α} {i : Nat} : (madeD f g xs i).length ≤ xs.length := by
  unfold madeD
  rw [List.length_map]
  have h1 := List.length_filter_le f (xs.take i)
  have h2 : (xs.take i).length ≤ xs.length := by rw [List.length_take]; omega
  omega
theorem made_yes {α : Type} {f : α → Bool} {g : α → D} {xs : List α} {i : Nat} {x : α} (h : xs[i]? = some x) (hf : f x = true) : madeD f g xs (i + 1) = madeD f g xs i ++ [g x] := by
  unfold madeD
  rw [List.take_add_one, h, Option.toList_some, List.filter_append, List.map_append]
  simp [List.filter, hf]
theorem made_no {α : Type} {f : α → Bool} {g : α → D} {xs : List α} {i : Nat} {x : α} (h : xs[i]? = some x) (hf : f x = false) : madeD f g xs (i + 1) = madeD f g xs i := by
  unfold madeD
  rw [List.take_add_one, h, Option.toList_some, List.filter_append, List.map_append]
  simp [List.filter, hf]
theorem made_all {α : Type} {f : α → Bool} {g : α → D} {xs : List α} : madeD f g xs xs.length = (xs.filter f).map g := by
  unfold madeD
  rw [List.take_length]
/-- between two turns: the new list at Dl -/
structure Cw {α : Type} (K : PySem.W.Frag) (G H : Hp) (f : α → Bool) (g : α → D) (xs : List α) (Dl : Addr) (i : Nat) (H' : Hp) : Prop where
  ex : H Dl = none ∧ ∃ (G' : Hp) (vs : List V), Fr G H G' H' ∧ G' Dl = none ∧ H' Dl = some (.lst vs) ∧ RpL K G' vs (madeD f g xs i)
theorem cw_turn {α : Type} {K : PySem.W.Frag} {te : TE} {tt : TT} {G H G1 H' : Hp} {vs : List V} {f : α → Bool} {g : α → D} {xs : List α} {Dl : Addr} {i : Nat} {x : α} {σ2 : L2.St} (hx : xs[i]? = some x) (hz : xs.length ≤ 100000)
    (h0 : H Dl = none) (f1 : Fr G H G1 H') (g1 : G1 Dl = none) (h1 : H' Dl = some (.lst vs)) (r1 : RpL K G1 vs (madeD f g xs i))
    (ht : ∀ Gg Hh, Same G1 Gg → Same Gg Hh → ∀ Q : Bool → Hp → Prop, (∀ G' H', Fr Gg Hh G' H' → Q (f x) H') → tt σ2 Hh Q) (he : f x = true → ∀ Gg Hh, Same G1 Gg → Same Gg Hh → ∀ Q : VK, (∀ v G' H', Fr Gg Hh G' H' → Rp K G' v (g x) → Q v H') → te σ2 Hh Q) :
    tt σ2 H' fun b H3 => if b = true then te σ2 H3 fun y H4 => ∃ acc, H4 Dl = some (.lst acc) ∧ acc.length < sizeLine ∧ Cw K G H f g xs Dl (i + 1) (upd H4 Dl (.lst (acc ++ [y]))) else Cw K G H f g xs Dl (i + 1) H3 := by
  refine ht G1 H' (Same.refl _) f1.s _ fun G2 H2 f2 => ?_
  obtain ⟨g2, h2⟩ := f2.out g1 h1
  cases hf : f x with
  | false =>
    rw [if_neg (by decide)]
    refine ⟨h0, G2, vs, f1.trans f2, g2, h2, ?_⟩
    rw [made_no hx hf]
    exact r1.up f2.g
  | true =>
    rw [if_pos rfl]
    refine he hf G2 H2 f2.g f2.s _ fun y G3 H3 f3 r3 => ?_
    obtain ⟨g3, h3⟩ := f3.out g2 h2
    refine ⟨vs, h3, ?_, h0, G3, vs ++ [y], Fr.mut ((f1.trans f2).trans f3) h0 g3, g3, upd_same, ?_⟩
    · rw [r1.length]
      exact Nat.lt_of_le_of_lt (Nat.le_trans made_len hz) (by decide)
    · rw [made_yes hx hf]
      exact (r1.up (f2.g.trans f3.g)).append (RpL.one r3)
section
variable {X : Cx} {H0 : Hp} {ρ : Ro} {elt iter : Expr} {ifs : List Expr} {pos pn : Pos} {t : Str} {scope : Scope} {α : Type}
/-- what a comprehension's source gives: its items -/
def EvI (X : Cx) (H0 : Hp) (ρ : Ro) (iter : Expr) (ds : List D) : Prop := ∃ wi : TI, (∀ tg, PI X tg iter wi) ∧ ∀ (σ : L2.St) (G H : Hp), Same H0 G → Same G H → En X.K G σ ρ → ∀ R : It → Hp → Prop,
  (∀ (J : It) (G1 H1 : Hp), Fr G H G1 H1 → (∀ (i : Nat) (G2 H2 : Hp), Same G1 G2 → Same G2 H2 → (ds.length ≤ i → J.stop i H2) ∧ (∀ d, ds[i]? = some d → J.go i H2 ∧ ∀ x H3, J.yld i H2 x H3 → ∃ G3, Fr G2 H2 G3 H3 ∧ Rp X.K G3 x d)) → R J H1) → wi σ H R
theorem EvI.is {ds ds' : List D} (h : EvI X H0 ρ iter ds) (e : ds = ds') : EvI X H0 ρ iter ds' := e ▸ h
theorem i_tup {ds : List D} (h : Ev X H0 ρ iter (.tup ds)) : EvI X H0 ρ iter ds := by
  refine ⟨iTup X.K (wE X iter), fun tg => pi_tup pw, fun σ G H sg sh en R q => h σ G H sg sh en _ fun v G1 H1 f1 r1 => ?_⟩
  obtain ⟨a, xs, e, hs, r⟩ := r1.tup_of
  refine ⟨a, e, ⟨xs, Same.sqT f1.s hs⟩, q _ G1 H1 f1 fun i G2 H2 s12 s2 => ⟨fun hl => ⟨xs, Same.sqT (s12.trans s2) hs, by rw [r.length]; exact hl⟩, fun d hd => ?_⟩⟩
  obtain ⟨v2, hv, rv⟩ := r.get hd
  exact ⟨⟨xs, v2, Same.sqT (s12.trans s2) hs, hv⟩, fun x H3 y => ⟨G2, by
    rw [y.1]
    exact Fr.refl s2, by
    have := y.2 xs (Same.sqT (s12.trans s2) hs)
    rw [hv] at this
    cases this
    exact rv.up s12⟩⟩
theorem i_lst {ds : List D} (h : Ev X H0 ρ iter (.lst ds)) : EvI X H0 ρ iter ds := by
  refine ⟨iList X.K (wE X iter), fun tg => pi_list pw, fun σ G H sg sh en R q => h σ G H sg sh en _ fun v G1 H1 f1 r1 => ?_⟩
  obtain ⟨a, xs, e, hs, r⟩ := r1.lst_of
  refine ⟨a, e, ⟨xs, SqL.of (f1.s _ _ hs)⟩, q _ G1 H1 f1 fun i G2 H2 s12 s2 => ⟨fun hl => ⟨xs, SqL.of ((s12.trans s2) _ _ hs), by rw [r.length]; exact hl⟩, fun d hd => ?_⟩⟩
  obtain ⟨v2, hv, rv⟩ := r.get hd
  exact ⟨⟨xs, v2, SqL.of ((s12.trans s2) _ _ hs), hv⟩, fun x H3 y => ⟨G2, by
    rw [y.1]
    exact Fr.refl s2, by
    have := y.2 xs (SqL.of ((s12.trans s2) _ _ hs))
    rw [hv] at this
    cases this
    exact rv.up s12⟩⟩
theorem i_range1 {a : Expr} {n : Int} {p : Pos} (hm : X.mg "range" = none) (h : Ev X H0 ρ a (.int n)) (hn : -1000000 ≤ n ∧ n ≤ 1000000) (hg : Gl X "range" := by rfl) (hs : starEach [a] X.env = [(false, eval a X.env)] := by rfl) (hs2 : starEach [a] X.env = (false, eval a X.env) :: starEach [] X.env := by rfl) :
    EvI X H0 ρ (.Call (.Name "range" p) [a] [] pos) ((List.range n.toNat).map fun (i : Nat) => D.int (i : Int)) := by
  refine ⟨iRng1 (wA X [a]), fun tg => pi_range1 hg hm paw hs, fun σ G H sg sh en R q => a_cons h a_nil hs2 σ G H sg sh en _ fun vs G1 H1 f1 r1 => ?_⟩
  cases r1 with
  | cons r1 r2 =>
    cases r2
    obtain rfl := r1.int_of
    refine ⟨n, rfl, by omega, by omega, q _ G1 H1 f1 fun i G2 H2 s12 s2 => ⟨fun hl => ?_, fun d hd => ?_⟩⟩
    · rw [List.length_map, List.length_range] at hl
      exact hl
    · rw [List.getElem?_map] at hd
      by_cases hi : i < n.toNat
      · rw [List.getElem?_range hi] at hd
        cases hd
        refine ⟨hi, fun x H3 y => ⟨G2, by rw [y.1]; exact Fr.refl s2, ?_⟩⟩
        rw [y.2, Int.zero_add]
        exact .int _
      · rw [List.getElem?_eq_none (by rw [List.length_range]; omega)] at hd
        cases hd
def bT (X : Cx) (scope : Scope) (ifs : List Expr) : TT := fun σ H Q => ∀ (s : Shared) (H' : Hp) (C : Addr) (cl : List (Str × Addr)) (fp : List Addr), wTs (X.blk s H' scope (compEnvC scope cl C X.env) fp) ifs σ H Q
def bE (X : Cx) (scope : Scope) (elt : Expr) : TE := fun σ H Q => ∀ (s : Shared) (H' : Hp) (C : Addr) (cl : List (Str × Addr)) (fp : List Addr), wE (X.blk s H' scope (compEnvC scope cl C X.env) fp) elt σ H Q
/-- the reading of a comprehension, for both of its rules -/
def EvC (X : Cx) (H0 : Hp) (ρ : Ro) (elt iter : Expr) (ifs : List Expr) (scope : Scope) (j : Nat) (ds : List D) : Prop := ∃ wi : TI, (∀ tg, PI X tg iter wi) ∧ ∀ (σ : L2.St) (G H : Hp), Same H0 G → Same G H → En X.K G σ ρ →
  ∀ Q : VK, (∀ l vs G' H', Fr G H G' H' → H l = none → G' l = none → H' l = some (.lst vs) → RpL X.K G' vs ds → Q (.ref l) H') → tLc wi (gName j) (bT X scope ifs) (bE X scope elt) [j] σ H Q
def SrcW (X : Cx) (H0 : Hp) (ρ : Ro) (wi : TI) (ds : List D) : Prop := ∀ (σ : L2.St) (G H : Hp), Same H0 G → Same G H → En X.K G σ ρ → ∀ R : It → Hp → Prop,
  (∀ (J : It) (G1 H1 : Hp), Fr G H G1 H1 → (∀ (i : Nat) (G2 H2 : Hp), Same G1 G2 → Same G2 H2 → (ds.length ≤ i → J.stop i H2) ∧ (∀ d, ds[i]? = some d → J.go i H2 ∧ ∀ x H3, J.yld i H2 x H3 → ∃ G3, Fr G2 H2 G3 H3 ∧ Rp X.K G3 x d)) → R J H1) → wi σ H R
def CmpW (X : Cx) (H0 : Hp) (ρ : Ro) (wi : TI) (elt : Expr) (ifs : List Expr) (scope : Scope) (j : Nat) (ds : List D) : Prop := ∀ (σ : L2.St) (G H : Hp), Same H0 G → Same G H → En X.K G σ ρ →
  ∀ Q : VK, (∀ l vs G' H', Fr G H G' H' → H l = none → G' l = none → H' l = some (.lst vs) → RpL X.K G' vs ds → Q (.ref l) H') → tLc wi (gName j) (bT X scope ifs) (bE X scope elt) [j] σ H Q
theorem c_core {wi : TI} (enc : α → D) (xs : List α) (f : α → Bool) (g : α → D) (j : Nat) (hw : SrcW X H0 ρ wi (xs.map enc)) (hz : xs.length ≤ 100000)
    (ht : ∀ x ∈ xs, ∀ (s : Shared) (H : Hp) (C : Addr) (cl : List (Str × Addr)) (fp : List Addr), EvTs (X.blk s H scope (compEnvC scope cl C X.env) fp) H0 ((wipeD ρ [j]).set j (some (enc x))) ifs (f x))
    (he : ∀ x ∈ xs, f x = true → ∀ (s : Shared) (H : Hp) (C : Addr) (cl : List (Str × Addr)) (fp : List Addr), Ev (X.blk s H scope (compEnvC scope cl C X.env) fp) H0 ((wipeD ρ [j]).set j (some (enc x))) elt (g x)) :
    CmpW X H0 ρ wi elt ifs scope j ((xs.filter f).map g) := by
  intro σ G H sg sh en Q q
  refine hw σ G H sg sh en _ fun J G1 H1 f1 hJ Dl hD => ?_
  refine ⟨fun i m H' => m = xs.length - i ∧ i ≤ xs.length ∧ Cw X.K G1 H1 f g xs Dl i H', ⟨xs.length, by simp, Nat.zero_le _, hD, G1, [], Fr.newH f1.s hD, f1.s.free hD, upd_same, .nil⟩, ?_⟩
  rintro i m H' ⟨rfl, hi, p⟩
  obtain ⟨_, G2, vs, f2, g2, h2, r2⟩ := id p.ex
  obtain ⟨k1, k2⟩ := hJ i G2 H' f2.g f2.s
  by_cases hlt : i < xs.length
  · have hx : xs[i]? = some xs[i] := List.getElem?_eq_getElem hlt
    have hmem : xs[i] ∈ xs := List.getElem_mem hlt
    obtain ⟨go, yl⟩ := k2 (enc xs[i]) (by rw [List.getElem?_map, hx]; rfl)
    refine .inr ⟨go, fun H'' => Cw X.K G1 H1 f g xs Dl (i + 1) H'', fun H'' p' => ⟨xs.length - (i + 1), by omega, rfl, hlt, p'⟩, fun x H3 y => ?_⟩
    obtain ⟨G3, f3, rx⟩ := yl x H3 y
    have hw2 : wipe ((wipe σ [j]).set j (some x)) [j] = wipe σ [j] := by
      show ((σ.set j none).set j (some x)).set j none = σ.set j none
      rw [List.set_set, List.set_set]
    have en2 : ∀ Gg, Same G3 Gg → En X.K Gg ((wipe σ [j]).set j (some x)) ((wipeD ρ [j]).set j (some (enc xs[i]))) := fun Gg s => ((en.up (((f1.g.trans f2.g).trans f3.g).trans s)).wipe [j]).set j (rx.up s)
    obtain ⟨g3, h3⟩ := f3.out g2 h2
    have sg3 := sg.trans ((f1.g.trans f2.g).trans f3.g)
    exact ⟨hw2, cw_turn (tt := bT X scope ifs) (te := bE X scope elt) (σ2 := (wipe σ [j]).set j (some x)) hx hz hD (f2.trans f3) g3 h3 (r2.up f3.g) (fun Gg Hh s1 s2 Q qq s H C cl fp => ht _ hmem s H C cl fp _ Gg Hh (sg3.trans s1) s2 (en2 Gg s1) Q qq)
      (fun hf Gg Hh s1 s2 Q qq s H C cl fp => he _ hmem hf s H C cl fp _ Gg Hh (sg3.trans s1) s2 (en2 Gg s1) Q qq)⟩
  · have e : i = xs.length := by omega
    subst e
    refine .inl ⟨k1 (by rw [List.length_map]; exact Nat.le_refl _), q Dl vs G2 H' (f1.trans f2) (f1.h.free hD) g2 h2 ?_⟩
    rw [← made_all]
    exact r2
theorem c_of (enc : α → D) (xs : List α) (f : α → Bool) (g : α → D) (j : Nat) (hsrc : EvI X H0 ρ iter (xs.map enc)) (hz : xs.length ≤ 100000)
    (ht : ∀ x ∈ xs, ∀ (s : Shared) (H : Hp) (C : Addr) (cl : List (Str × Addr)) (fp : List Addr), EvTs (X.blk s H scope (compEnvC scope cl C X.env) fp) H0 ((wipeD ρ [j]).set j (some (enc x))) ifs (f x))
    (he : ∀ x ∈ xs, f x = true → ∀ (s : Shared) (H : Hp) (C : Addr) (cl : List (Str × Addr)) (fp : List Addr), Ev (X.blk s H scope (compEnvC scope cl C X.env) fp) H0 ((wipeD ρ [j]).set j (some (enc x))) elt (g x)) :
    EvC X H0 ρ elt iter ifs scope j ((xs.filter f).map g) := by
  obtain ⟨wi, hpi, hw⟩ := hsrc
  exact ⟨wi, hpi, c_core enc xs f g j hw hz ht he⟩
theorem src_lst {ds : List D} (h : Ev X H0 ρ iter (.lst ds)) : SrcW X H0 ρ (iList X.K (wE X iter)) ds := by
  refine fun σ G H sg sh en R q => h σ G H sg sh en _ fun v G1 H1 f1 r1 => ?_
  obtain ⟨a, xs, e, hs, r⟩ := r1.lst_of
  refine ⟨a, e, ⟨xs, SqL.of (f1.s _ _ hs)⟩, q _ G1 H1 f1 fun i G2 H2 s12 s2 => ⟨fun hl => ⟨xs, SqL.of ((s12.trans s2) _ _ hs), by rw [r.length]; exact hl⟩, fun d hd => ?_⟩⟩
  obtain ⟨v2, hv, rv⟩ := r.get hd
  exact ⟨⟨xs, v2, SqL.of ((s12.trans s2) _ _ hs), hv⟩, fun x H3 y => ⟨G2, by
    rw [y.1]
    exact Fr.refl s2, by
    have := y.2 xs (SqL.of ((s12.trans s2) _ _ hs))
    rw [hv] at this
    cases this
    exact rv.up s12⟩⟩
/-- [elt for t in iter if ..] -/
theorem l_lc {ds : List D} (j : Nat) (h : EvC X H0 ρ elt iter ifs scope j ds) (hN : X.N.Nodup := by assumption)
    (hg : ∀ (s : Shared) (H : Hp) (C : Addr) (cl : List (Str × Addr)) (fp : List Addr), PG (X.blk s H scope (compEnvC scope cl C X.env) fp) (.Name t pn) (gName j) := by first | exact fun _ _ _ _ _ => pg_name (by assumption) rfl (Or.inl rfl) | exact fun _ _ _ _ _ => pg_name (by assumption) rfl (Or.inr rfl))
    (ok : BlkOk X.N X.env.scope scope [(t, j)] := by exact blkOk_by (by first | kernel_rfl | rfl)) (hc : X.calm = true := by rfl) (hs : ∀ x, foldedSetIterable iter X.env x = pure x := by intro _; rfl) :
    EvL X H0 ρ (.ListComp elt [⟨.Name t pn, iter, ifs, 0⟩] scope pos) ds := by
  obtain ⟨wi, hpi, hw⟩ := h
  intro σ G H sg sh en Q q
  exact wE_of (pe_lc (tt := bT X scope ifs) (te := bE X scope elt) (own := [(t, j)]) hc hN (hpi _) ok hg (fun s H C cl fp => ⟨fun pins s1 σ1 H1 Q1 I h => h s H C cl fp pins s1 I⟩) (fun s H C cl fp => ⟨fun pins s1 σ1 H1 Q1 I h => h s H C cl fp pins s1 I⟩) hs) (hw σ G H sg sh en Q q)
end
end G9

/-! Layer B: operations by data; statements; promises. -/
namespace G9
open PySem L2

/-! ### data for == -/
mutual
def D.py : D → PyData
  | .non => .none
  | .bl b => .bool b
  | .int i => .int i
  | .str x => .str x
  | .tup ds => .tuple (D.pyL ds)
  | .lst ds => .list (D.pyL ds)
  | .ref _ => .none
  | .ty _ => .none
def D.pyL : List D → List PyData
  | [] => []
  | d :: ds => D.py d :: D.pyL ds
end
/-- plain data, at most n deep -/
inductive Sh : Nat → D → Prop
  | non {n : Nat} : Sh n .non
  | bl {n : Nat} (b : Bool) : Sh n (.bl b)
  | int {n : Nat} (i : Int) : Sh n (.int i)
  | str {n : Nat} (x : Str) (h : PyData.strOk x = true) : Sh n (.str x)
  | tup {n : Nat} {ds : List D} (h : ∀ d ∈ ds, Sh n d) : Sh (n + 1) (.tup ds)
  | lst {n : Nat} {ds : List D} (h : ∀ d ∈ ds, Sh n d) : Sh (n + 1) (.lst ds)
theorem Sh.mono {n : Nat} {d : D} (h : Sh n d) : ∀ {m : Nat}, n ≤ m → Sh m d := by
  induction h with
  | non => intro m _; exact .non
  | bl b => intro m _; exact .bl b
  | int b => intro m _; exact .int b
  | str b h => intro m _; exact .str b h
  | tup h ih =>
    intro m hm
    obtain ⟨k, rfl⟩ : ∃ k, m = k + 1 := ⟨m - 1, by omega⟩
    exact .tup fun d hd => ih d hd (by omega)
  | lst h ih =>
    intro m hm
    obtain ⟨k, rfl⟩ : ∃ k, m = k + 1 := ⟨m - 1, by omega⟩
    exact .lst fun d hd => ih d hd (by omega)
theorem depthAll_le {n : Nat} : ∀ {ds : List D}, (∀ d ∈ ds, d.py.depth ≤ n) → PyData.depthAll (D.pyL ds) ≤ n
  | [], _ => by simp [D.pyL, PyData.depthAll]
  | d :: ds, h => by
    rw [D.pyL, PyData.depthAll]
    have h1 := h d List.mem_cons_self
    have h2 := depthAll_le (ds := ds) fun x hx => h x (List.mem_cons_of_mem _ hx)
    omega
theorem canAll_of : ∀ {ds : List D}, (∀ d ∈ ds, d.py.canLay0 = true) → PyData.canLayAll0 (D.pyL ds) = true
  | [], _ => by simp [D.pyL, PyData.canLayAll0]
  | d :: ds, h => by
    rw [D.pyL, PyData.canLayAll0, h d List.mem_cons_self, canAll_of (ds := ds) fun x hx => h x (List.mem_cons_of_mem _ hx)]
    rfl
theorem Sh.depth {n : Nat} {d : D} (h : Sh n d) : d.py.depth ≤ n ∧ d.py.canLay0 = true := by
  induction h with
  | non => exact ⟨by simp [D.py, PyData.depth], by simp [D.py, PyData.canLay0]⟩
  | bl b => exact ⟨by simp [D.py, PyData.depth], by simp [D.py, PyData.canLay0]⟩
  | int b => exact ⟨by simp [D.py, PyData.depth], by simp [D.py, PyData.canLay0]⟩
  | str b h => exact ⟨by simp [D.py, PyData.depth], by simp [D.py, PyData.canLay0, h]⟩
  | tup h ih => exact ⟨by rw [D.py, PyData.depth]; have := depthAll_le fun d hd => (ih d hd).1; omega, by rw [D.py, PyData.canLay0]; exact canAll_of fun d hd => (ih d hd).2⟩
  | lst h ih => exact ⟨by rw [D.py, PyData.depth]; have := depthAll_le fun d hd => (ih d hd).1; omega, by rw [D.py, PyData.canLay0]; exact canAll_of fun d hd => (ih d hd).2⟩
theorem Sh.shaped {n : Nat} {d : D} (h : Sh n d) (hn : n ≤ 64 := by decide) : SeqAt.shaped d.py = true := by
  unfold SeqAt.shaped
  rw [h.depth.2, decide_eq_true (Nat.le_trans h.depth.1 hn)]
  rfl
theorem rpL_dp {K : PySem.W.Frag} {H : Hp} : ∀ {ds : List D} {vs : List V}, RpL K H vs ds → (∀ d ∈ ds, ∀ v, Rp K H v d → Dp K H v d.py) → DpAll K H vs (D.pyL ds)
  | [], _, .nil, _ => .nil
  | d :: ds, _, .cons r t, h => .cons (h d List.mem_cons_self _ r) (rpL_dp t fun x hx => h x (List.mem_cons_of_mem _ hx))
theorem Sh.dp {K : PySem.W.Frag} {H : Hp} {n : Nat} {d : D} (h : Sh n d) : ∀ {v : V}, Rp K H v d → Dp K H v d.py := by
  induction h with
  | non => intro v r; cases r; exact .non
  | bl b => intro v r; cases r; exact .bl b
  | int b => intro v r; cases r; exact .int b
  | str b h => intro v r; cases r; exact .str b
  | tup h ih =>
    intro v r
    obtain ⟨a, xs, rfl, hs, rl⟩ := r.tup_of
    rw [D.py]
    exact .tup hs (rpL_dp rl fun d hd v r => ih d hd r)
  | lst h ih =>
    intro v r
    obtain ⟨a, xs, rfl, hs, rl⟩ := r.lst_of
    rw [D.py]
    exact .lst (SqL.of hs) (rpL_dp rl fun d hd v r => ih d hd r)
/-- .. of fewer than 64 items each -/
inductive Sm : Nat → D → Prop
  | non {n : Nat} : Sm n .non
  | bl {n : Nat} (b : Bool) : Sm n (.bl b)
  | int {n : Nat} (i : Int) : Sm n (.int i)
  | str {n : Nat} (x : Str) (h : PyData.strOk x = true) : Sm n (.str x)
  | tup {n : Nat} {ds : List D} (hl : ds.length < 64) (h : ∀ d ∈ ds, Sm n d) : Sm (n + 1) (.tup ds)
  | lst {n : Nat} {ds : List D} (hl : ds.length < 64) (h : ∀ d ∈ ds, Sm n d) : Sm (n + 1) (.lst ds)
theorem Sm.sh {n : Nat} {d : D} (h : Sm n d) : Sh n d := by
  induction h with
  | non => exact .non
  | bl b => exact .bl b
  | int b => exact .int b
  | str b h => exact .str b h
  | tup hl h ih => exact .tup ih
  | lst hl h ih => exact .lst ih
theorem Sm.tup_inv {n : Nat} {ds : List D} (h : Sm n (.tup ds)) : ∃ m, n = m + 1 ∧ ds.length < 64 ∧ ∀ d ∈ ds, Sm m d := by
  cases h with
  | tup hl h => exact ⟨_, rfl, hl, h⟩
def D.eqv (a b : D) : Bool := PyData.eqv a.py b.py

section
variable {K : PySem.W.Frag} {H0 : Hp}
/-! ### operators -/
theorem rd_i {g : Int → Int → Int} {i j : Int} : Rd2 K H0 (rI0 fun i j => .int (g i j)) (.int i) (.int j) (.int (g i j)) := fun x y G H _ s rx ry Q q => ⟨i, j, rx.int_of, ry.int_of, q _ _ _ (Fr.refl s) (.int _)⟩
theorem rd_b {g : Int → Int → Bool} {i j : Int} : Rd2 K H0 (rI0 fun i j => .bl (g i j)) (.int i) (.int j) (.bl (g i j)) := fun x y G H _ s rx ry Q q => ⟨i, j, rx.int_of, ry.int_of, q _ _ _ (Fr.refl s) (.bl _)⟩
theorem rd_ic {C : Int → Int → Prop} {g : Int → Int → Int} {i j : Int} (h : C i j) : Rd2 K H0 (rI C fun i j => .int (g i j)) (.int i) (.int j) (.int (g i j)) := fun x y G H _ s rx ry Q q => ⟨i, j, rx.int_of, ry.int_of, h, q _ _ _ (Fr.refl s) (.int _)⟩
theorem rd_neg {i : Int} : Rd1 K H0 (rU fun i => .int (-i)) (.int i) (.int (-i)) := fun x G H _ s rx Q q => ⟨i, rx.int_of, q _ _ _ (Fr.refl s) (.int _)⟩
theorem rd_eqI {i j : Int} : Rd2 K H0 rEq (.int i) (.int j) (.bl (decide (i = j))) := fun x y G H _ s rx ry Q q => by
  cases rx.int_of
  cases ry.int_of
  refine ⟨rfl, ?_⟩
  have e : decide (V.int i = V.int j) = decide (i = j) := decide_eq_decide.mpr ⟨fun z => by cases z; rfl, fun z => by rw [z]⟩
  rw [e]
  exact q _ _ _ (Fr.refl s) (.bl _)
theorem rd_neI {i j : Int} : Rd2 K H0 rNe (.int i) (.int j) (.bl (!decide (i = j))) := fun x y G H _ s rx ry Q q => by
  cases rx.int_of
  cases ry.int_of
  refine ⟨rfl, ?_⟩
  have e : decide (V.int i = V.int j) = decide (i = j) := decide_eq_decide.mpr ⟨fun z => by cases z; rfl, fun z => by rw [z]⟩
  rw [e]
  exact q _ _ _ (Fr.refl s) (.bl _)
theorem rd_eqD {n m : Nat} {a b : D} (ha : Sh n a) (hb : Sh m b) (hn : n ≤ 64 := by decide) (hm : m ≤ 64 := by decide) : Rd2 K H0 (rEqD K) a b (.bl (a.eqv b)) := fun x y G H _ s rx ry Q q =>
  ⟨a.py, b.py, ha.dp (rx.up s), hb.dp (ry.up s), ha.shaped hn, hb.shaped hm, q _ _ _ (Fr.refl s) (.bl _)⟩
theorem rd_neD {n m : Nat} {a b : D} (ha : Sh n a) (hb : Sh m b) (hn : n ≤ 64 := by decide) (hm : m ≤ 64 := by decide) : Rd2 K H0 (rNeD K) a b (.bl (!a.eqv b)) := fun x y G H _ s rx ry Q q =>
  ⟨a.py, b.py, ha.dp (rx.up s), hb.dp (ry.up s), ha.shaped hn, hb.shaped hm, q _ _ _ (Fr.refl s) (.bl _)⟩
theorem inV_int {i : Int} : ∀ ns : List Int, inV (.int i) (ns.map V.int) = ns.contains i
  | [] => rfl
  | n :: ns => by
    have ih := inV_int (i := i) ns
    unfold inV at ih ⊢
    rw [List.map_cons, List.any_cons, ih, List.contains_cons]
    show ((n == i) || _) = ((i == n) || _)
    rw [Bool.beq_comm]
theorem flat_ints : ∀ ns : List Int, (ns.map V.int).all flatV = true
  | [] => rfl
  | n :: ns => by
    rw [List.map_cons, List.all_cons, flat_ints ns]
    rfl
/-- i in a tuple of ints -/
theorem rd_inT {i : Int} {ns : List Int} : Rd2 K H0 (rIn K false) (.int i) (.tup (ns.map D.int)) (.bl (ns.contains i)) := fun x y G H _ s rx ry Q q => by
  cases rx.int_of
  obtain ⟨a, xs, rfl, hs, r⟩ := ry.tup_of
  obtain rfl := r.ints_of
  refine ⟨a, _, rfl, .inr (Same.sqT s hs), rfl, flat_ints ns, ?_⟩
  rw [if_neg (by decide), inV_int]
  exact q _ _ _ (Fr.refl s) (.bl _)
theorem rd_ninT {i : Int} {ns : List Int} : Rd2 K H0 (rIn K true) (.int i) (.tup (ns.map D.int)) (.bl (!ns.contains i)) := fun x y G H _ s rx ry Q q => by
  cases rx.int_of
  obtain ⟨a, xs, rfl, hs, r⟩ := ry.tup_of
  obtain rfl := r.ints_of
  refine ⟨a, _, rfl, .inr (Same.sqT s hs), rfl, flat_ints ns, ?_⟩
  rw [if_pos rfl, inV_int]
  exact q _ _ _ (Fr.refl s) (.bl _)
theorem rd_inL {i : Int} {ns : List Int} : Rd2 K H0 (rIn K false) (.int i) (.lst (ns.map D.int)) (.bl (ns.contains i)) := fun x y G H _ s rx ry Q q => by
  cases rx.int_of
  obtain ⟨a, xs, rfl, hs, r⟩ := ry.lst_of
  obtain rfl := r.ints_of
  refine ⟨a, _, rfl, .inl (SqL.of (s _ _ hs)), rfl, flat_ints ns, ?_⟩
  rw [if_neg (by decide), inV_int]
  exact q _ _ _ (Fr.refl s) (.bl _)
/-- items by their place -/
theorem rp_at {vs : List V} {ds : List D} {G : Hp} {i : Int} {d : D} (r : RpL K G vs ds) (h : atI ds i = some d) : ∃ v, atI vs i = some v ∧ Rp K G v d := by
  unfold atI at h ⊢
  rw [r.length]
  cases e : ixN ds.length i with
  | none => rw [e] at h; cases h
  | some j =>
    rw [e] at h
    exact r.get h
theorem rd_ixT {ds : List D} {i : Int} {d : D} (h : atI ds i = some d) : Rd2 K H0 (rIxT K) (.tup ds) (.int i) d := fun x y G H _ s rx ry Q q => by
  cases ry.int_of
  obtain ⟨a, xs, rfl, hs, r⟩ := rx.tup_of
  obtain ⟨v, hv, rv⟩ := rp_at r h
  exact ⟨a, xs, i, v, rfl, rfl, Same.sqT s hs, hv, q _ _ _ (Fr.refl s) rv⟩
theorem rd_ixL {ds : List D} {i : Int} {d : D} (h : atI ds i = some d) : Rd2 K H0 (rIxL K) (.lst ds) (.int i) d := fun x y G H _ s rx ry Q q => by
  cases ry.int_of
  obtain ⟨a, xs, rfl, hs, r⟩ := rx.lst_of
  obtain ⟨v, hv, rv⟩ := rp_at r h
  exact ⟨a, xs, i, v, rfl, rfl, SqL.of (s _ _ hs), hv, q _ _ _ (Fr.refl s) rv⟩
/-- t + u -/
theorem rd_catT {as bs : List D} (hz : as.length + bs.length ≤ 100000) : Rd2 K H0 (rCatA K) (.tup as) (.tup bs) (.tup (as ++ bs)) := fun x y G H _ s rx ry Q q => by
  obtain ⟨a, xs, rfl, hs, r⟩ := rx.tup_of
  obtain ⟨b, ys, rfl, hs2, r2⟩ := ry.tup_of
  refine ⟨a, b, xs, ys, rfl, rfl, Same.sqT s hs, Same.sqT s hs2, by rw [r.length, r2.length]; exact Nat.le_trans hz (by decide), fun e => ?_, fun _ e => ?_, fun _ _ p hp => ?_⟩
  · subst e
    have e : as = [] := List.eq_nil_of_length_eq_zero r.length.symm
    subst e
    exact q _ _ _ (Fr.refl s) (.tup hs2 r2)
  · subst e
    have e : bs = [] := List.eq_nil_of_length_eq_zero r2.length.symm
    subst e
    rw [List.append_nil] at q
    exact q _ _ _ (Fr.refl s) (.tup hs r)
  · exact q _ _ _ (Fr.new s hp) (.tup (.inl (.inl upd_same)) ((r.append r2).up (Same.new (s.free hp))))
theorem rd_cat {as bs : List D} (hz : as.length + bs.length ≤ 100000) : Rd2L K H0 rCat (.lst as) (.lst bs) (as ++ bs) := fun x y G H _ s rx ry Q q => by
  obtain ⟨a, xs, rfl, hs, r⟩ := rx.lst_of
  obtain ⟨b, ys, rfl, hs2, r2⟩ := ry.lst_of
  exact ⟨a, b, xs, ys, rfl, rfl, s _ _ hs, s _ _ hs2, by rw [r.length, r2.length]; exact Nat.le_trans hz (by decide), fun p hp => q p _ _ _ (Fr.newH s hp) hp (s.free hp) upd_same (r.append r2)⟩
theorem rd_addS {a b : Str} (hz : a.length + b.length ≤ 100000) : Rd2 K H0 (fun x y H Q => ∃ i j, x = .str i ∧ y = .str j ∧ i.length + j.length ≤ sizeLine ∧ Q (.str (i ++ j)) H) (.str a) (.str b) (.str (a ++ b)) := fun x y G H _ s rx ry Q q =>
  ⟨a, b, rx.str_of, ry.str_of, Nat.le_trans hz (by decide), q _ _ _ (Fr.refl s) (.str _)⟩
theorem rd_isN {a : D} {k : Bool} (hk : ∀ v G, Rp K G v a → decide (v = V.non) = k) : Rd2 K H0 (fun x y H Q => y = .non ∧ Q (.bl (decide (x = .non))) H) a .non (.bl k) := fun x y G H _ s rx ry Q q => by
  refine ⟨ry.non_of, ?_⟩
  rw [hk x G rx]
  exact q _ _ _ (Fr.refl s) (.bl _)
/-! ### built-in functions -/
theorem rc_lenT {ds : List D} : RdC K H0 (fun xs H Q => ∃ p ys, xs = [.ref p] ∧ (SqL K H p ys ∨ SqT K H p ys) ∧ Q (.int ys.length) H) [.tup ds] (.int ds.length) := fun xs G H _ s r Q q => by
  cases r with
  | cons r1 r2 =>
    cases r2
    obtain ⟨a, xs, rfl, hs, r⟩ := r1.tup_of
    refine ⟨a, xs, rfl, .inr (Same.sqT s hs), ?_⟩
    rw [r.length]
    exact q _ _ _ (Fr.refl s) (.int _)
theorem rc_lenL {ds : List D} : RdC K H0 (fun xs H Q => ∃ p ys, xs = [.ref p] ∧ (SqL K H p ys ∨ SqT K H p ys) ∧ Q (.int ys.length) H) [.lst ds] (.int ds.length) := fun xs G H _ s r Q q => by
  cases r with
  | cons r1 r2 =>
    cases r2
    obtain ⟨a, xs, rfl, hs, r⟩ := r1.lst_of
    refine ⟨a, xs, rfl, .inl (SqL.of (s _ _ hs)), ?_⟩
    rw [r.length]
    exact q _ _ _ (Fr.refl s) (.int _)
theorem rc_all {bs : List Bool} : RdC K H0 (rAll K) [.lst (bs.map D.bl)] (.bl (bs.all id)) := fun xs G H _ s r Q q => by
  cases r with
  | cons r1 r2 =>
    cases r2
    obtain ⟨a, xs, rfl, hs, r⟩ := r1.lst_of
    obtain rfl := r.bls_of
    exact ⟨a, bs, rfl, SqL.of (s _ _ hs), q _ _ _ (Fr.refl s) (.bl _)⟩
theorem rc_any {bs : List Bool} : RdC K H0 (rAny K) [.lst (bs.map D.bl)] (.bl (bs.any id)) := fun xs G H _ s r Q q => by
  cases r with
  | cons r1 r2 =>
    cases r2
    obtain ⟨a, xs, rfl, hs, r⟩ := r1.lst_of
    obtain rfl := r.bls_of
    exact ⟨a, bs, rfl, SqL.of (s _ _ hs), q _ _ _ (Fr.refl s) (.bl _)⟩
theorem rc_sum {ns : List Int} : RdC K H0 (rSum K) [.lst (ns.map D.int)] (.int ns.sum) := fun xs G H _ s r Q q => by
  cases r with
  | cons r1 r2 =>
    cases r2
    obtain ⟨a, xs, rfl, hs, r⟩ := r1.lst_of
    obtain rfl := r.ints_of
    exact ⟨a, ns, rfl, SqL.of (s _ _ hs), q _ _ _ (Fr.refl s) (.int _)⟩
abbrev rListOf (K : PySem.W.Frag) : List V → Hp → VK → Prop := fun xs H Q => ∃ p ys, xs = [.ref p] ∧ (SqL K H p ys ∨ SqT K H p ys) ∧ ∀ l, H l = none → Q (.ref l) (upd H l (.lst ys))
abbrev rTupOf (K : PySem.W.Frag) : List V → Hp → VK → Prop := fun xs H Q => ∃ p ys, xs = [.ref p] ∧ ((SqL K H p ys ∧ ∀ l, H l = none → Q (.ref l) (upd H l (.tup ys))) ∨ (SqT K H p ys ∧ Q (.ref p) H))
theorem rc_listT {ds : List D} : RdCL K H0 (rListOf K) [.tup ds] ds := fun xs G H _ s r Q q => by
  cases r with
  | cons r1 r2 =>
    cases r2
    obtain ⟨a, xs, rfl, hs, r⟩ := r1.tup_of
    exact ⟨a, xs, rfl, .inr (Same.sqT s hs), fun p hp => q p _ _ _ (Fr.newH s hp) hp (s.free hp) upd_same r⟩
theorem rc_listL {ds : List D} : RdCL K H0 (rListOf K) [.lst ds] ds := fun xs G H _ s r Q q => by
  cases r with
  | cons r1 r2 =>
    cases r2
    obtain ⟨a, xs, rfl, hs, r⟩ := r1.lst_of
    exact ⟨a, xs, rfl, .inl (SqL.of (s _ _ hs)), fun p hp => q p _ _ _ (Fr.newH s hp) hp (s.free hp) upd_same r⟩
theorem rc_tupL {ds : List D} : RdC K H0 (rTupOf K) [.lst ds] (.tup ds) := fun xs G H _ s r Q q => by
  cases r with
  | cons r1 r2 =>
    cases r2
    obtain ⟨a, xs, rfl, hs, r⟩ := r1.lst_of
    exact ⟨a, xs, rfl, .inl ⟨SqL.of (s _ _ hs), fun p hp => q _ _ _ (Fr.new s hp) (.tup (.inl (.inl upd_same)) (r.up (Same.new (s.free hp))))⟩⟩
/-- isinstance -/
def D.tyS : D → Option String
  | .non => some "NoneType"
  | .bl _ => some "bool"
  | .int _ => some "int"
  | .str _ => some "str"
  | .tup _ => some "tuple"
  | .lst _ => some "list"
  | .ref _ => none
  | .ty _ => none
theorem Sm.ty {n : Nat} {d : D} (h : Sm n d) : d.tyS ≠ none := by
  cases h <;> exact fun z => nomatch z
theorem sqT_ty {H : Hp} {a : Addr} {xs : List V} (h : SqT K H a xs) : TyX K H (.ref a) (.type "tuple") := by
  rcases h with (h | ⟨o, h⟩) | h
  · exact .base (.tup h)
  · exact .fTuple h
  · obtain ⟨o, its, n, h1, h2, _⟩ := h
    exact .kTuple h1 h2
theorem rc_isi {d : D} {t n : String} {b : Bool} (ht : d.tyS = some t) (hb : kitB t n = some b) : RdC K H0 (rIsi K) [d, .ty n] (.bl b) := fun xs G H _ s r Q q => by
  cases r with
  | cons r1 r2 =>
    cases r2 with
    | cons r2 r3 =>
      cases r3
      cases r2
      refine ⟨_, _, .type t, .type n, b, rfl, .ty n, ?_, kit_ty hb, q _ _ _ (Fr.refl s) (.bl _)⟩
      cases r1 with
      | non => cases ht; exact .base .non
      | bl b => cases ht; exact .base (.bl b)
      | int b => cases ht; exact .base (.int b)
      | str b => cases ht; exact .base (.str b)
      | ty b => cases ht
      | ref b => cases ht
      | tup h _ => cases ht; exact sqT_ty (Same.sqT s h)
      | lst h _ => cases ht; exact .base (.lst (s _ _ h))
end
end G9

/-! Layer C: promises of defs, statements. -/
namespace G9
open PySem PyProof.Rows L2

/-! ### promises -/
/-- called with data ds (of which G tells) it hands back d, if R ds d -/
def spR (K : PySem.W.Frag) (R : List D → D → Prop) : Sp := fun vs H Q _ => ∃ (ds : List D) (d : D) (G : Hp), Same G H ∧ RpL K G vs ds ∧ R ds d ∧ ∀ v G' H', Fr G H G' H' → Rp K G' v d → Q v H'
structure Fn (P : Program) (w : World) (K : PySem.W.Frag) (mg : Str → Option Value) (base : Heap) (x : Str) (k : Nat) (sp : Sp) : Prop where
  ex : ∃ (f : Addr) (fd : FuncData) (ps : List Str) (CX : CXT), FnOk P w K mg base CX k f fd ps sp ∧ mg x = some (.ref f) ∧ PySem.W.keepIn K (.ref f) = true ∧ Binds K fd ps [] ∧ ∀ X : Cx, X.prog = P → X.w = w → Passes CX X E0
section
variable {X : Cx} {H0 : Hp} {ρ : Ro} {e : Expr} {es : List Expr} {d : D} {ds : List D} {pos p : Pos} {x : Str} {k : Nat} {R : List D → D → Prop}
theorem e_call (F : Fn X.prog X.w X.K X.mg X.base x k (spR X.K R)) (hr : Room k X.A) (ha : EvA X H0 ρ (e :: es) ds) (hR : R ds d) (hg : Gl X x := by rfl) (hdb : (x == ("__debug__" : Str)) = false := by decide)
    (he : starEach (e :: es) X.env = (false, eval e X.env) :: starEach es X.env := by rfl) (hpl : (backTo pos (starEach es X.env)).any (·.1) = false := by rfl) : Ev X H0 ρ (.Call (.Name x p) (e :: es) [] pos) d := fun σ G H sg sh en Q q => by
  obtain ⟨f, fd, ps, CX, F1, hm, hk, hb, hx⟩ := F.ex
  refine wE_of (pe_call F1 hr hg hm hk hb .nil (hx X rfl rfl) paw hdb he hpl) (ha σ G H sg sh en _ fun vs G1 H1 f1 r1 => ?_)
  rw [List.append_nil]
  exact ⟨ds, d, G1, f1.s, r1, hR, fun v G2 H2 f2 r2 => q v G2 H2 (f1.trans f2) r2⟩
end
def startD (N : List Str) (ds : List D) : Ro := ds.map some ++ List.replicate (N.length - ds.length) none
theorem rpL_ev {K : PySem.W.Frag} {G : Hp} : ∀ {vs : List V} {ds : List D}, RpL K G vs ds → ∀ (i : Nat) (d : D), (ds.map some)[i]? = some (some d) → ∃ v, (vs.map some)[i]? = some (some v) ∧ Rp K G v d := fun {vs ds} r i d h => by
  rw [List.getElem?_map] at h
  cases e : ds[i]? with
  | none => rw [e] at h; cases h
  | some d' =>
    rw [e] at h
    cases h
    obtain ⟨v, hv, rv⟩ := r.get e
    exact ⟨v, by rw [List.getElem?_map, hv]; rfl, rv⟩
theorem en_start {K : PySem.W.Frag} {G : Hp} {N : List Str} {vs : List V} {ds : List D} (r : RpL K G vs ds) : En K G (L2.start N vs) (startD N ds) := by
  have hl := r.length
  refine ⟨by unfold L2.start startD; simp [hl], fun i d h => ?_⟩
  unfold startD at h
  unfold L2.start
  by_cases hi : i < ds.length
  · rw [List.getElem?_append_left (by rw [List.length_map]; exact hi)] at h
    rw [List.getElem?_append_left (by rw [List.length_map, hl]; exact hi)]
    exact rpL_ev r i d h
  · rw [List.getElem?_append_right (by rw [List.length_map]; omega)] at h
    rw [List.length_map, List.getElem?_replicate] at h
    split at h <;> cases h
section
variable {P : Program} {w : World} {K : PySem.W.Frag} {mg : Str → Option Value} {base : Heap}
/-- a def that raises nothing: its body from any slots that tell the arguments -/
theorem okD {x qual : Str} {st : Stmt} {f : Addr} {fd : FuncData} {N ps : List Str} {k : Nat} {R : List D → D → Prop} (F : Fun K x qual st f fd) (S : FnScope N ps (defScope st)) (len : ∀ ds d, R ds d → ds.length = ps.length)
    (hbody : ∀ (cdv : Value) (A : Around) (outer : List Env) (s : Shared) (H G : Hp) (E : XK) (σ : L2.St) (ds : List D) (d : D) (Q : VK), Room k (A.deeper (envOfC qual (defScope st) s.heap.objs.size f cdv)) → R ds d → Same G H → En K G σ (startD N ds) →
      (∀ v G' H', Fr G H G' H' → Rp K G' v d → Q v H') → wB (cxOf CX0 P w K mg base N qual (defScope st) f cdv A outer s H E).nox (defBody st) { nx := fun _ H' => Q .non H', rt := Q } σ H) : FnOk P w K mg base CX0 (k + 1) f fd ps (spR K R) := by
  refine F.ok S (fun vs H Q E h => ?_) (fun cdv A outer s H vs Q E hr h => ?_)
  · obtain ⟨ds, d, G, _, r, hR, _⟩ := h
    rw [r.length]
    exact len ds d hR
  · obtain ⟨ds, d, G, sh, r, hR, q⟩ := h
    exact ⟨_, pbw, hbody cdv A outer s H G E (L2.start N vs) ds d Q hr hR sh (en_start r) q⟩
/-- a def with any promise, its body by the weakest reading -/
theorem okS {x qual : Str} {st : Stmt} {f : Addr} {fd : FuncData} {N ps : List Str} {k : Nat} {sp : Sp} (F : Fun K x qual st f fd) (S : FnScope N ps (defScope st)) (len : ∀ vs H Q E, sp vs H Q E → vs.length = ps.length)
    (hbody : ∀ (cdv : Value) (A : Around) (outer : List Env) (s : Shared) (H : Hp) (E : XK) (vs : List V) (Q : VK), Room k (A.deeper (envOfC qual (defScope st) s.heap.objs.size f cdv)) → sp vs H Q E →
      wB (cxOf CX0 P w K mg base N qual (defScope st) f cdv A outer s H E).nox (defBody st) { nx := fun _ H' => Q .non H', rt := Q } (L2.start N vs) H) : FnOk P w K mg base CX0 (k + 1) f fd ps sp :=
  F.ok S len fun cdv A outer s H vs Q E hr h => ⟨_, pbw, hbody cdv A outer s H E vs Q hr h⟩
theorem fn_mk {x qual : Str} {st : Stmt} {f : Addr} {fd : FuncData} {ps : List Str} {k : Nat} {sp : Sp} (F : Fun K x qual st f fd) (G : FnOk P w K mg base CX0 k f fd ps sp) (hm : mg x = some (.ref f)) (b : Binds K fd ps []) : Fn P w K mg base x k sp :=
  ⟨f, fd, ps, CX0, G, hm, F.kp, b, fun X _ _ => pass0⟩
theorem fn_mkX {x qual : Str} {st : Stmt} {f : Addr} {fd : FuncData} {ps : List Str} {k : Nat} {sp : Sp} (F : Fun K x qual st f fd) (G : FnOk P w K mg base (L2.CX P w) k f fd ps sp) (hm : mg x = some (.ref f)) (b : Binds K fd ps []) : Fn P w K mg base x k sp :=
  ⟨f, fd, ps, L2.CX P w, G, hm, F.kp, b, fun X e1 e2 => by subst e1 e2; exact passL⟩
end

/-! ### statements -/
section
variable {X : Cx} {H0 : Hp} {ρ : Ro} {e c : Expr} {es : List Expr} {d : D} {ds : List D} {pos p : Pos} {x : Str} {σ : L2.St} {G H : Hp} {rest sa sb : List Stmt} {st : Stmt} {N : Ends}
theorem wB_cons (h : wS X st { N with nx := wB X rest N } σ H) : wB X (st :: rest) N σ H := wB_of (pss_cons psw pbw) h
theorem wB_nil (h : N.nx σ H) : wB X [] N σ H := wB_of pss_nil h
/-- name = e -/
theorem s_asg (i : Nat) (h : Ev X H0 ρ e d) (sg : Same H0 G) (sh : Same G H) (en : En X.K G σ ρ) (k : ∀ σ' G' H', Fr G H G' H' → En X.K G' σ' (ρ.set i (some d)) → wB X rest N σ' H') (hN : X.N.Nodup := by assumption) (hi : X.N[i]? = some x := by rfl)
    (hx : Loc X.env.scope x := by first | exact Or.inl rfl | exact Or.inr rfl) (hs : swapsWith e (some (.Name x p)) pos.line X.env = pure false := by rfl) (hf : X.fn x = true ∨ X.env.scope.names.lookup x = some .local := by first | exact .inl rfl | exact .inr rfl | assumption) :
    wB X (.Assign [.Name x p] e pos :: rest) N σ H :=
  wB_cons (wS_of (ps_set hN hi hx pw hs hf) (h σ G H sg sh en _ fun v G1 H1 f1 r1 => k _ G1 H1 f1 ((en.up f1.g).set i r1)))
theorem s_asgX (i : Nat) (h : Ev X H0 ρ e d) (sg : Same H0 G) (sh : Same G H) (en : En X.K G σ ρ) (k : ∀ v G' H', Fr G H G' H' → Rp X.K G' v d → wB X rest N (σ.set i (some v)) H') (hN : X.N.Nodup := by assumption) (hi : X.N[i]? = some x := by rfl)
    (hx : Loc X.env.scope x := by first | exact Or.inl rfl | exact Or.inr rfl) (hs : swapsWith e (some (.Name x p)) pos.line X.env = pure false := by rfl) (hf : X.fn x = true ∨ X.env.scope.names.lookup x = some .local := by first | exact .inl rfl | exact .inr rfl | assumption) :
    wB X (.Assign [.Name x p] e pos :: rest) N σ H :=
  wB_cons (wS_of (ps_set hN hi hx pw hs hf) (h σ G H sg sh en _ fun v G1 H1 f1 r1 => k v G1 H1 f1 r1))
/-- name = a new list, kept outside of G -/
theorem s_asgL (i : Nat) (h : EvL X H0 ρ e ds) (sg : Same H0 G) (sh : Same G H) (en : En X.K G σ ρ) (k : ∀ l vs σ' G' H', Fr G H G' H' → H l = none → G' l = none → H' l = some (.lst vs) → RpL X.K G' vs ds → En X.K G' σ' (ρ.set i (some (.ref l))) → wB X rest N σ' H') (hN : X.N.Nodup := by assumption) (hi : X.N[i]? = some x := by rfl)
    (hx : Loc X.env.scope x := by first | exact Or.inl rfl | exact Or.inr rfl) (hs : swapsWith e (some (.Name x p)) pos.line X.env = pure false := by rfl) (hf : X.fn x = true ∨ X.env.scope.names.lookup x = some .local := by first | exact .inl rfl | exact .inr rfl | assumption) :
    wB X (.Assign [.Name x p] e pos :: rest) N σ H :=
  wB_cons (wS_of (ps_set hN hi hx pw hs hf) (h σ G H sg sh en _ fun l vs G1 H1 f1 hl gl hl' r1 => k l vs _ G1 H1 f1 hl gl hl' r1 ((en.up f1.g).set i (.ref l))))
/-- name = [.. for ..], the name a local of one line with it -/
theorem s_asgC {elt iter : Expr} {ifs : List Expr} {scope : Scope} {t : Str} {pn p2 : Pos} (i j : Nat) (h : EvC X H0 ρ elt iter ifs scope j ds) (sg : Same H0 G) (sh : Same G H) (en : En X.K G σ ρ)
    (k : ∀ l vs σ' G' H', Fr G H G' H' → H l = none → G' l = none → H' l = some (.lst vs) → RpL X.K G' vs ds → En X.K G' σ' (ρ.set i (some (.ref l))) → wB X rest N σ' H') (hN : X.N.Nodup := by assumption) (hi : X.N[i]? = some x := by rfl)
    (hx : X.env.scope.names.lookup x = some .local := by rfl) (hsw : swapsWith (.ListComp elt [⟨.Name t pn, iter, ifs, 0⟩] scope p2) (some (.Name x p)) pos.line X.env = pure true := by exact sw_true rfl rfl rfl (by decide +kernel))
    (hg : ∀ (s : Shared) (H : Hp) (C : Addr) (cl : List (Str × Addr)) (fp : List Addr), PG (X.blk s H scope (compEnvC scope cl C X.env) fp) (.Name t pn) (gName j) := by first | exact fun _ _ _ _ _ => pg_name (by assumption) rfl (Or.inl rfl) | exact fun _ _ _ _ _ => pg_name (by assumption) rfl (Or.inr rfl))
    (ok : BlkOk X.N X.env.scope scope [(t, j)] := by exact blkOk_by (by first | kernel_rfl | rfl)) (hc : X.calm = true := by rfl) (hs : ∀ x, foldedSetIterable iter X.env x = pure x := by intro _; rfl) :
    wB X (.Assign [.Name x p] (.ListComp elt [⟨.Name t pn, iter, ifs, 0⟩] scope p2) pos :: rest) N σ H := by
  obtain ⟨wi, hpi, hw⟩ := h
  refine wB_cons (wS_of (ps_setLc (i := i) (tt := bT X scope ifs) (te := bE X scope elt) (own := [(t, j)]) hc hN hi hx hsw (hpi _) ok hg (fun s H C cl fp => ⟨fun pins s1 σ1 H1 Q1 I h => h s H C cl fp pins s1 I⟩) (fun s H C cl fp => ⟨fun pins s1 σ1 H1 Q1 I h => h s H C cl fp pins s1 I⟩) hs)
    (hw σ G H sg sh en _ fun l vs G1 H1 f1 hl gl hl' r1 => k l vs _ G1 H1 f1 hl gl hl' r1 ((en.up f1.g).set i (.ref l))))
/-- .. the list as a value -/
theorem s_asgV {elt iter : Expr} {ifs : List Expr} {scope : Scope} {t : Str} {pn p2 : Pos} (i j : Nat) (h : EvC X H0 ρ elt iter ifs scope j ds) (sg : Same H0 G) (sh : Same G H) (en : En X.K G σ ρ)
    (k : ∀ σ' G' H', Fr G H G' H' → En X.K G' σ' (ρ.set i (some (.lst ds))) → wB X rest N σ' H') (hN : X.N.Nodup := by assumption) (hi : X.N[i]? = some x := by rfl)
    (hx : X.env.scope.names.lookup x = some .local := by rfl) (hsw : swapsWith (.ListComp elt [⟨.Name t pn, iter, ifs, 0⟩] scope p2) (some (.Name x p)) pos.line X.env = pure true := by exact sw_true rfl rfl rfl (by decide +kernel))
    (hg : ∀ (s : Shared) (H : Hp) (C : Addr) (cl : List (Str × Addr)) (fp : List Addr), PG (X.blk s H scope (compEnvC scope cl C X.env) fp) (.Name t pn) (gName j) := by first | exact fun _ _ _ _ _ => pg_name (by assumption) rfl (Or.inl rfl) | exact fun _ _ _ _ _ => pg_name (by assumption) rfl (Or.inr rfl))
    (ok : BlkOk X.N X.env.scope scope [(t, j)] := by exact blkOk_by (by first | kernel_rfl | rfl)) (hc : X.calm = true := by rfl) (hs : ∀ x, foldedSetIterable iter X.env x = pure x := by intro _; rfl) :
    wB X (.Assign [.Name x p] (.ListComp elt [⟨.Name t pn, iter, ifs, 0⟩] scope p2) pos :: rest) N σ H := by
  obtain ⟨wi, hpi, hw⟩ := h
  refine wB_cons (wS_of (ps_setLc (i := i) (tt := bT X scope ifs) (te := bE X scope elt) (own := [(t, j)]) hc hN hi hx hsw (hpi _) ok hg (fun s H C cl fp => ⟨fun pins s1 σ1 H1 Q1 I h => h s H C cl fp pins s1 I⟩) (fun s H C cl fp => ⟨fun pins s1 σ1 H1 Q1 I h => h s H C cl fp pins s1 I⟩) hs)
    (hw σ G H sg sh en _ fun l vs G1 H1 f1 hl gl hl' r1 => ?_))
  have f2 := f1.add hl gl hl'
  exact k _ _ H1 f2 ((en.up f2.g).set i (.lst upd_same (r1.up (Same.new gl))))
/-- a, b = e -/
theorem s_two {y : Str} {px py : Pos} {kt : Nat} {d1 d2 : D} (i j : Nat) (h : Ev X H0 ρ e (.tup [d1, d2])) (sg : Same H0 G) (sh : Same G H) (en : En X.K G σ ρ) (k : ∀ σ' G' H', Fr G H G' H' → En X.K G' σ' ((ρ.set i (some d1)).set j (some d2)) → wB X rest N σ' H') (hN : X.N.Nodup := by assumption)
    (g1 : PG X (.Name x px) (gName i) := by first | exact pg_name (by assumption) rfl (Or.inl rfl) | exact pg_name (by assumption) rfl (Or.inr rfl)) (g2 : PG X (.Name y py) (gName j) := by first | exact pg_name (by assumption) rfl (Or.inl rfl) | exact pg_name (by assumption) rfl (Or.inr rfl))
    (hc : X.calm = true := by rfl) (hn : (assignEach [Expr.Name x px, .Name y py] X.env).length = 2 := by rfl) (hst : (assignEach [Expr.Name x px, .Name y py] X.env).findIdx? (·.1) = none := by rfl)
    (hs1 : (assignEach [Expr.Name x px, .Name y py] X.env).map (·.2) = assign (.Name x px) X.env :: (assignEach [.Name y py] X.env).map (·.2) := by rfl) (hs2 : (assignEach [Expr.Name y py] X.env).map (·.2) = assign (.Name y py) X.env :: (assignEach [] X.env).map (·.2) := by rfl)
    (hs : swapsWithSole [.Tuple [.Name x px, .Name y py] kt p] e pos.line X.env = pure false := by rfl) (hw : swappedStores [.Tuple [.Name x px, .Name y py] kt p] e X.env = pure none := by rfl) (h1 : (assignEach [.Tuple [.Name x px, .Name y py] kt p] X.env).map (·.2) = [assign (.Tuple [.Name x px, .Name y py] kt p) X.env] := by rfl) :
    wB X (.Assign [.Tuple [.Name x px, .Name y py] kt p] e pos :: rest) N σ H := by
  refine wB_cons (wS_of (ps_asg pw (pg_tup hc (pgs_cons g1 (pgs_cons g2 pgs_nil hs2) hs1) hn hst) hs hw h1) (h σ G H sg sh en _ fun v G1 H1 f1 r1 => ?_))
  obtain ⟨a, xs, rfl, hs, r⟩ := r1.tup_of
  cases r with
  | cons ra r =>
    cases r with
    | cons rb r =>
      cases r
      exact ⟨a, _, rfl, Same.sqT f1.s hs, rfl, _, _, rfl, _, _, rfl, rfl, k _ G1 H1 f1 (((en.up f1.g).set i ra).set j rb)⟩
/-- return e -/
theorem s_ret (h : Ev X H0 ρ e d) (sg : Same H0 G) (sh : Same G H) (en : En X.K G σ ρ) (k : ∀ v G' H', Fr G H G' H' → Rp X.K G' v d → N.rt v H') : wB X (.Return (some e) pos :: rest) N σ H :=
  wB_cons (wS_of (ps_ret pw) (h σ G H sg sh en _ fun v G1 H1 f1 r1 => k v G1 H1 f1 r1))
/-- if -/
theorem s_if {b : Bool} (h : EvT X H0 ρ c b) (sg : Same H0 G) (sh : Same G H) (en : En X.K G σ ρ) (kt : b = true → ∀ G' H', Fr G H G' H' → En X.K G' σ ρ → wB X sa { N with nx := wB X rest N } σ H') (kf : b = false → ∀ G' H', Fr G H G' H' → En X.K G' σ ρ → wB X sb { N with nx := wB X rest N } σ H') :
    wB X (.If c sa sb pos :: rest) N σ H :=
  wB_cons (wS_of (ps_if ptw pbw pbw) (h σ G H sg sh en _ fun G1 H1 f1 => by
    cases b with
    | true => exact kt rfl G1 H1 f1 (en.up f1.g)
    | false => exact kf rfl G1 H1 f1 (en.up f1.g)))
/-- if without else -/
theorem s_when {b : Bool} (h : EvT X H0 ρ c b) (sg : Same H0 G) (sh : Same G H) (en : En X.K G σ ρ) (kt : b = true → ∀ G' H', Fr G H G' H' → En X.K G' σ ρ → wB X sa { N with nx := wB X rest N } σ H') (kf : b = false → ∀ G' H', Fr G H G' H' → En X.K G' σ ρ → wB X rest N σ H') :
    wB X (.If c sa [] pos :: rest) N σ H := s_if h sg sh en kt fun hb G1 H1 f1 en1 => wB_nil (kf hb G1 H1 f1 en1)
/-- e, for what it does -/
theorem s_expr (h : Ev X H0 ρ e d) (sg : Same H0 G) (sh : Same G H) (en : En X.K G σ ρ) (k : ∀ G' H', Fr G H G' H' → En X.K G' σ ρ → wB X rest N σ H') (hs : swapsWith e none pos.line X.env = pure false := by rfl) : wB X (.Expr e pos :: rest) N σ H :=
  wB_cons (wS_of (ps_expr pw hs) (h σ G H sg sh en _ fun v G1 H1 f1 r1 => k G1 H1 f1 (en.up f1.g)))
/-- o[j] = e, o a list -/
theorem s_setL {o ix : Expr} {ps : Pos} {l : Addr} {vs : List V} {j : Nat} {ρo : Ro} (h : Ev X H0 ρ e d) (ho : Ev X Nil ρo o (.ref l)) (hi : Ev X H0 ρ ix (.int (j : Int))) (sg : Same H0 G) (sh : Same G H) (en : En X.K G σ ρ) (eno : En X.K Nil σ ρo) (hl : H l = some (.lst vs)) (hj : j < vs.length)
    (k : ∀ v G' H', Fr G H G' H' → Rp X.K G' v d → wB X rest N σ (upd H' l (.lst (vs.set j v))))
    (hs : swapsWithSole [.Subscript o ix ps] e pos.line X.env = pure false := by rfl) (hw : swappedStores [.Subscript o ix ps] e X.env = pure none := by rfl) (h1 : (assignEach [.Subscript o ix ps] X.env).map (·.2) = [assign (.Subscript o ix ps) X.env] := by rfl)
    (ha : ∀ v, assign (.Subscript o ix ps) X.env v = (do
      let ov ← holding [v] (eval o X.env)
      let iv ← holding [v, ov] (eval ix X.env)
      standAt ps
      holding [v, ov, iv] (setItem ov iv v)
      release [v, ov, iv] []) := by intro _; rfl) : wB X (.Assign [.Subscript o ix ps] e pos :: rest) N σ H := by
  refine wB_cons (wS_of (ps_asg pw (pg_sub pw pw set_list ha) hs hw h1) (h σ G H sg sh en _ fun v G1 H1 f1 r1 => ho σ Nil H1 same_nil same_nil eno _ fun w G2 H2 f2 r2 => ?_))
  have s2 : Same G1 H2 := f1.s.trans f2.h
  refine hi σ G1 H2 (sg.trans f1.g) s2 (en.up f1.g) _ fun u G3 H3 f3 r3 => ?_
  obtain rfl := r2.ref_of
  obtain rfl := r3.int_of
  have f13 : Fr G H G3 H3 := ⟨(f1.h.trans f2.h).trans f3.h, f1.g.trans f3.g, f3.s, fun a e1 e2 => f3.n a (f1.n a e1 e2) fun z => by
    cases q : H a with
    | none => exact e2 q
    | some o => rw [(f1.h.trans f2.h) a o q] at z; cases z⟩
  refine ⟨l, vs, (j : Int), j, rfl, rfl, f13.h _ _ hl, ?_, k v G3 H3 f13 (r1.up f3.g)⟩
  unfold ixN
  rw [if_pos (Int.natCast_nonneg j), if_pos (by omega), Int.toNat_natCast]
/-- a list outside of G -/
structure Lo (K : PySem.W.Frag) (G H : Hp) (l : Addr) (ds : List D) : Prop where
  out : G l = none
  ex : ∃ vs, H l = some (.lst vs) ∧ RpL K G vs ds
theorem Lo.fr {K : PySem.W.Frag} {G' H' : Hp} {l : Addr} (h : Lo K G H l ds) (f : Fr G H G' H') : Lo K G' H' l ds := by
  obtain ⟨vs, h1, h2⟩ := h.ex
  obtain ⟨g3, h3⟩ := f.out h.out h1
  exact ⟨g3, vs, h3, h2.up f.g⟩
/-- l.append(e) -/
theorem s_app {o : Expr} {pa p1 : Pos} {l : Addr} (ho : Ev X Nil ρ o (.ref l)) (h : Ev X H0 ρ e d) (sg : Same H0 G) (sh : Same G H) (en : En X.K G σ ρ) (hl : Lo X.K G H l ds) (hz : ds.length < 100000)
    (k : ∀ G' H' H2, Fr G H G' H' → (∃ o, H2 = upd H' l o) → Lo X.K G' H2 l (ds ++ [d]) → En X.K G' σ ρ → wB X rest N σ H2)
    (pe : PE X (.Call (.Attribute o "append" pa) [e] [] p1) (tBM X.K "list" rAppend (wE X o) (wA X [e])) := by exact pe_bm PySem.F.plainAttrs_list PySem.F.slot_list_append PySem.F.type_list_append mt_append pw paw)
    (hs2 : starEach [e] X.env = (false, eval e X.env) :: starEach [] X.env := by rfl) (hs : swapsWith (.Call (.Attribute o "append" pa) [e] [] p1) none pos.line X.env = pure false := by rfl) :
    wB X (.Expr (.Call (.Attribute o "append" pa) [e] [] p1) pos :: rest) N σ H := by
  refine wB_cons (wS_of (ps_expr pe hs) (ho σ G H same_nil sh en _ fun v G1 H1 f1 r1 => ?_))
  obtain rfl := r1.ref_of
  obtain ⟨vs, h1, h2⟩ := (hl.fr f1).ex
  refine ⟨.inl ⟨rfl, _, SqL.of h1⟩, a_cons h a_nil hs2 σ G1 H1 (sg.trans f1.g) f1.s (en.up f1.g) _ fun ws G2 H2 f2 r2 => ?_⟩
  cases r2 with
  | cons r2 r3 =>
    cases r3
    have hl2 := (hl.fr f1).fr f2
    obtain ⟨vs2, h3, h4⟩ := hl2.ex
    refine ⟨l, vs2, _, rfl, rfl, h3, by rw [h4.length]; exact Nat.lt_trans hz (by decide), k G2 H2 _ (f1.trans f2) ⟨_, rfl⟩ ⟨hl2.out, _, upd_same, h4.append (RpL.one r2)⟩ (en.up (f1.trans f2).g)⟩
/-- for x in iter, by a word over the turn, the slots, the heaps -/
theorem s_for {α : Type} {iter : Expr} {body : List Stmt} {px : Pos} (j : Nat) (enc : α → D) (xs : List α) (J : Nat → Ro → Hp → Hp → Prop) (src : EvI X H0 ρ iter (xs.map enc)) (sg : Same H0 G) (sh : Same G H) (en : En X.K G σ ρ)
    (h0 : ∀ G1 H1, Fr G H G1 H1 → J 0 ρ G1 H1)
    (hs : ∀ i x ρ' σ' G' H' G3 H3, xs[i]? = some x → J i ρ' G' H' → Fr G' H' G3 H3 → En X.K G3 σ' (ρ'.set j (some (enc x))) →
      wB X body { N with nx := fun σ2 H2 => ∃ ρ2 G2, Same G' G2 ∧ Same G2 H2 ∧ En X.K G2 σ2 ρ2 ∧ J (i + 1) ρ2 G2 H2, ct := fun σ2 H2 => ∃ ρ2 G2, Same G' G2 ∧ Same G2 H2 ∧ En X.K G2 σ2 ρ2 ∧ J (i + 1) ρ2 G2 H2, bk := wB X rest N } σ' H3)
    (hd : ∀ ρ' σ' G' H', J xs.length ρ' G' H' → Same G' H' → En X.K G' σ' ρ' → wB X rest N σ' H') (hN : X.N.Nodup := by assumption)
    (g1 : PG X (.Name x px) (gName j) := by first | exact pg_name (by assumption) rfl (Or.inl rfl) | exact pg_name (by assumption) rfl (Or.inr rfl)) (hp : PassesOwn (model X.prog X.w) X.A X.env X.xe := by exact PassesOwn.never) (hc : X.calm = true := by rfl) (hf : ∀ x, foldedSetIterable iter X.env x = pure x := by intro _; rfl) :
    wB X (.For (.Name x px) iter body [] pos :: rest) N σ H := by
  obtain ⟨wi, hpi, hw⟩ := src
  refine wB_cons (wS_of (ps_for hp hc (hpi _) g1 pbw hf) (hw σ G H sg sh en _ fun It G1 H1 f1 hJ => ?_))
  refine ⟨fun i m σ' H' => m = xs.length - i ∧ i ≤ xs.length ∧ ∃ ρ' G', Same G1 G' ∧ Same G' H' ∧ En X.K G' σ' ρ' ∧ J i ρ' G' H', ⟨xs.length, by simp, Nat.zero_le _, ρ, G1, Same.refl _, f1.s, en.up f1.g, h0 G1 H1 f1⟩, ?_⟩
  rintro i m σ' H' ⟨rfl, hi, ρ', G', s1, s2, en', q⟩
  obtain ⟨k1, k2⟩ := hJ i G' H' s1 s2
  by_cases hlt : i < xs.length
  · have hx : xs[i]? = some xs[i] := List.getElem?_eq_getElem hlt
    obtain ⟨go, yl⟩ := k2 (enc xs[i]) (by rw [List.getElem?_map, hx]; rfl)
    refine .inr ⟨go, fun σ2 H2 => ∃ ρ2 G2, Same G' G2 ∧ Same G2 H2 ∧ En X.K G2 σ2 ρ2 ∧ J (i + 1) ρ2 G2 H2, fun σ2 H2 ⟨ρ2, G2, a1, a2, a3, a4⟩ => ⟨xs.length - (i + 1), by omega, rfl, hlt, ρ2, G2, s1.trans a1, a2, a3, a4⟩, fun x H3 y => ?_⟩
    obtain ⟨G3, f3, rx⟩ := yl x H3 y
    exact hs i xs[i] ρ' _ G' H' G3 H3 hx q f3 ((en'.up f3.g).set j rx)
  · have e : i = xs.length := by omega
    subst e
    exact .inl ⟨k1 (by rw [List.length_map]; exact Nat.le_refl _), hd ρ' σ' G' H' q s2 en'⟩
/-- a new list is a value from here on -/
theorem Lo.val {K : PySem.W.Frag} {G0 H0 : Hp} {l : Addr} (h : Lo K G H l ds) (f : Fr G0 H0 G H) (hl : H0 l = none) : ∃ G', Fr G0 H0 G' H ∧ Same G G' ∧ Rp K G' (.ref l) (.lst ds) := by
  obtain ⟨vs, h1, h2⟩ := h.ex
  exact ⟨_, f.add hl h.out h1, Same.new h.out, .lst upd_same (h2.up (Same.new h.out))⟩
/-- .. for one question: the list as a value in a slot -/
theorem Lo.en {K : PySem.W.Frag} {l : Addr} {i : Nat} (h : Lo K G H l ds) (sh : Same G H) (en : En K G σ ρ) (hi : ρ[i]? = some (some (.ref l))) : ∃ G', Same G G' ∧ Same G' H ∧ En K G' σ (ρ.set i (some (.lst ds))) ∧ ∀ G0 H0, Fr G0 H0 G H → H0 l = none → Fr G0 H0 G' H := by
  obtain ⟨vs, h1, h2⟩ := h.ex
  refine ⟨upd G l (.lst vs), Same.new h.out, fun a u e => ?_, ?_, fun G0 H0 f hl => f.add hl h.out h1⟩
  · by_cases ha : a = l
    · subst ha
      rw [upd_same] at e
      rw [h1]
      exact e
    · rw [upd_ne ha] at e
      exact sh a u e
  · have en2 := en.up (Same.new (o := .lst vs) h.out)
    refine ⟨by rw [List.length_set]; exact en.len, fun j d q => ?_⟩
    by_cases hj : i = j
    · subst hj
      rw [List.getElem?_set_self ((List.getElem?_eq_some_iff.mp hi).1)] at q
      cases q
      obtain ⟨v, a1, a2⟩ := en.at_ i _ hi
      cases a2
      exact ⟨_, a1, .lst upd_same (h2.up (Same.new h.out))⟩
    · rw [List.getElem?_set_ne hj] at q
      exact en2.at_ j d q
end
end G9

/-! Layer S: sorting of tuples of ints of any lengths, sets. -/
namespace G9S
open PySem PyProof.Rows PySem.W
/-- a tuple of these ints -/
def TI (h : Heap) (v : Value) (ns : List Int) : Prop := ∃ (a : Addr) (its : Array Value), v = .ref a ∧ IsTup h a its ∧ IntsAre its.toList ns
theorem TI.keep {h h' : Heap} {v : Value} {ns : List Int} (x : TI h v ns) (k : ∀ b o, h.get? b = some o → o.cls = .type "tuple" → h'.get? b = some o) : TI h' v ns := by
  obtain ⟨a, its, e, ⟨o, ho, hc, hd⟩, hi⟩ := x
  exact ⟨a, its, e, ⟨o, k a o ho hc, hc, hd⟩, hi⟩
section
variable {prog : Program} {w : World} {A : Around} {E : Value → Shared → Prop} {s : Shared}
/-- two tuples by their items, from the i-th on -/
theorem lex_at {b0 : Bool} {Q : Bool → Shared → Prop} {n0 m0 : Nat} : ∀ (us vs : List Value) (ns ms : List Int) (i : Nat), IntsAre us ns → IntsAre vs ms → ns.length + m0 = ms.length + n0 → Q (HT.lexLt ns ms) s →
    KatLex prog w A b0 (decide (n0 < m0)) Q (us.zip vs) i s
  | _, _, _, _, i, .nil, .nil, hl, h => by
    have e : decide (n0 < m0) = false := decide_eq_false (by simp at hl; omega)
    rw [e]
    exact h
  | _, _, _, _, i, .nil, .cons y u hv, hl, h => by
    have e : decide (n0 < m0) = true := decide_eq_true (by simp at hl; omega)
    rw [e]
    exact h
  | _, _, _, _, i, .cons x t hu, .nil, hl, h => by
    have e : decide (n0 < m0) = false := decide_eq_false (by simp at hl; omega)
    rw [e]
    exact h
  | _, _, _, _, i, .cons x t hu, .cons y u hv, hl, h => by
    refine kat_cons (SeqAt.EqAt.int_int x t y u prog w _ _ ?_)
    rw [HT.lexLt_cons] at h
    refine kat_go (fun e1 => ?_) fun e1 => ?_
    · have ex : x = y := by simpa using e1
      rw [if_pos ex] at h
      exact kat_yes (lex_at _ _ _ _ (i + 1) hu hv (by simp only [List.length_cons] at hl; omega) h)
    · have ex : ¬ x = y := by simpa using e1
      rw [if_neg ex] at h
      refine kat_no ?_
      cases hb : (b0 && i == 0) with
      | true => exact oneLt_int h
      | false => exact kat_one _ _ (PyProof.Rows.lt_int h)
theorem cmp_tups {vs : List Value} {k : Value → List Int} {b0 : Bool} (hp : ∀ v ∈ vs, TI s.heap v (k v)) : SrtO.Cmp prog w A s (tuples' b0) (fun p => p.1 ∈ vs) (SrtO.lt2 fun v u => HT.lexLt (k v) (k u)) := by
  intro p q hm hm'
  obtain ⟨a, its, e, ⟨o, ho, hc, n, hd⟩, hi⟩ := hp _ hm
  obtain ⟨a', its', e', ⟨o', ho', hc', n', hd'⟩, hi'⟩ := hp _ hm'
  show wpAny (model prog w) A (keyLt' (tuples' b0) p.1 q.1) (fun r s' => s' = s ∧ r = HT.lexLt (k p.1) (k q.1)) (fun _ _ => False) s
  generalize k p.1 = ns at hi ⊢
  generalize k q.1 = ms at hi' ⊢
  rw [e, e']
  refine kat_lt ho hd ho' hd' (lex_at _ _ _ _ 0 hi hi' ?_ ⟨rfl, rfl⟩)
  rw [← hi.length, ← hi'.length, Array.length_toList, Array.length_toList]
  omega
theorem cmp_gen {vs : List Value} {k : Value → List Int} (hu : A.units < cLine) (hp : ∀ v ∈ vs, TI s.heap v (k v)) : SrtO.Cmp prog w A s general' (fun p => p.1 ∈ vs) (SrtO.lt2 fun v u => HT.lexLt (k v) (k u)) := by
  intro p q hm hm'
  obtain ⟨a, its, e, ht, hi⟩ := hp _ hm
  obtain ⟨a', its', e', ht', hi'⟩ := hp _ hm'
  show wpAny (model prog w) A (oneLt' false p.1 q.1) (fun r s' => s' = s ∧ r = HT.lexLt (k p.1) (k q.1)) (fun _ _ => False) s
  rw [e] at hi
  rw [e'] at hi'
  rw [e, e']
  exact kat_one _ _ (HT.lt_tupInts ht ht' hi hi' hu (show s = s ∧ _ from ⟨rfl, rfl⟩))
theorem cmp_one {vs : List Value} {k : Value → List Int} (hu : A.units < cLine) (hp : ∀ v ∈ vs, TI s.heap v (k v)) : SrtO.Cmp prog w A s oneType' (fun p => p.1 ∈ vs) (SrtO.lt2 fun v u => HT.lexLt (k v) (k u)) := by
  intro p q hm hm'
  obtain ⟨a, its, e, ht, hi⟩ := hp _ hm
  obtain ⟨a', its', e', ht', hi'⟩ := hp _ hm'
  show wpAny (model prog w) A (keyLt' oneType' p.1 q.1) (fun r s' => s' = s ∧ r = HT.lexLt (k p.1) (k q.1)) (fun _ _ => False) s
  rw [e] at hi
  rw [e'] at hi'
  rw [e, e', keyLt'_oneType, oneLt'_eq]
  simp only [if_true]
  obtain ⟨⟨cls, dd, data, sl⟩, ho, hc, n, hd⟩ := id ht
  obtain ⟨⟨cls2, dd2, data2, sl2⟩, ho2, hc2, n2, hd2⟩ := id ht'
  simp only at hc hd hc2 hd2
  subst hc hd hc2 hd2
  refine wpAny_bind (wpAny_cRoomFor hu ?_)
  refine wpAny_bind (wpAny_callSpecialIfBound?_slot ⟨_, ho, rfl⟩ PySem.F.slot_tuple_lt ?_)
  refine call_meets PySem.F.slot_tuple_lt ⟨_, ho, rfl⟩ PySem.F.entry_tuple_lt (PySem.F.args_tuple_lt_2 _ _) (HT.tuple_lt_ints a a' its its' n n2 dd dd2 sl sl2 _ _ hi hi') ⟨ho, ho2, ?_⟩
  exact wpAny_truthy_bool ⟨rfl, rfl⟩
/-- the first items, where there are some -/
theorem firsts_any {M : Model} : ∀ (vs : List Value) (ks : List (List Int)) {Q : List (Option Value) → Shared → Prop}, Paired (fun v k => TI s.heap v k) vs ks →
    (∀ fs : List (Option Value), Paired (fun f k => (k = [] ∧ f = none) ∨ ∃ x r t, k = x :: r ∧ f = some (.int x t)) fs ks → Q fs s) → wpAny M A (vs.mapM firstOfTuple') Q E s
  | [], _, Q, .nil, h => by
    rw [List.mapM_nil]
    exact wpAny_pure (h [] .nil)
  | v :: vs, k :: ks, Q, .cons hv t, h => by
    obtain ⟨a, its, rfl, ⟨o, ho, hc, n, hd⟩, hi⟩ := hv
    rw [List.mapM_cons]
    refine wpAny_bind ?_
    rw [kas_first_eq]
    refine wpAny_bind (Looks.here (show Looks M s.heap (typeOf (.ref a)) o.cls from (Looks.ld ho).andThen .now) ?_)
    rw [hc, if_neg (by first | decide | simp)]
    refine wpAny_bind (listItems_at ho hd (wpAny_pure ?_))
    refine wpAny_bind (firsts_any vs ks t fun fs hf => wpAny_pure (h _ (.cons ?_ hf)))
    have e0 : its[0]? = its.toList[0]? := by rw [Array.getElem?_toList]
    rw [e0]
    generalize its.toList = l at hi ⊢
    cases hi with
    | nil => exact .inl ⟨rfl, rfl⟩
    | cons x t hr => exact .inr ⟨x, _, t, rfl, rfl⟩
theorem ti_pairs {k : Value → List Int} : ∀ (vs : List Value), (∀ v ∈ vs, TI s.heap v (k v)) → Paired (fun v k => TI s.heap v k) vs (vs.map k)
  | [], _ => .nil
  | v :: vs, h => .cons (h v List.mem_cons_self) (ti_pairs vs fun u hu => h u (List.mem_cons_of_mem _ hu))
theorem one_type {M : Model} {vs : List Value} {T : Value} {Q : Option Value → Shared → Prop} (h1 : 1 ≤ vs.length) (hT : ∀ v ∈ vs, Looks M s.heap (typeOf v) T) (hT2 : (T == T) = true) (h : Q (some T) s) : wpAny M A (oneTypeOnly' vs.toArray) Q E s := by
  obtain ⟨f, fr, rfl⟩ : ∃ f fr, vs = f :: fr := by
    match vs, h1 with
    | f :: fr, _ => exact ⟨f, fr, rfl⟩
  rw [oneTypeOnly'_eq, List.mapM_toArray, map_eq_pure_bind]
  refine wpAny_bind (wpAny_bind (kas_mapM (r := T) _ (fun v hv Q' hq => (hT v hv).here hq) (wpAny_pure ?_)))
  have hall2 : ((List.map (fun _ => T) (f :: fr)).toArray.all fun x => x == T) = true := by
    simp only [List.all_toArray, List.all_map, List.all_eq_true]
    intro _ _
    exact hT2
  have h0 : (List.map (fun _ => T) (f :: fr)).toArray[0]? = some T := by simp
  rw [h0]
  simp only [hall2, if_true]
  exact wpAny_pure h
/-- the kind of a list of tuples of ints -/
theorem kind_any {vs : List Value} {k : Value → List Int} (h2 : 2 ≤ vs.length) (hu : A.units < cLine) (hp : ∀ v ∈ vs, TI s.heap v (k v)) :
    ∃ κ, (∀ (Q : SortKind → Shared → Prop) (E : Value → Shared → Prop), Q κ s → wpAny (model prog w) A (keyKind' vs.toArray) Q E s) ∧ SrtO.Cmp prog w A s κ (fun p => p.1 ∈ vs) (SrtO.lt2 fun v u => HT.lexLt (k v) (k u)) := by
  have hT : ∀ v ∈ vs, Looks (model prog w) s.heap (typeOf v) (.type "tuple") := fun v hv => by
    obtain ⟨a, its, rfl, ⟨o, ho, hc, n, hd⟩, hi⟩ := hp v hv
    rw [← hc]
    exact (Looks.ld ho).andThen .now
  by_cases hall : ∀ v ∈ vs, k v ≠ []
  · refine ⟨tuples' true, fun Q E hq => ?_, cmp_tups hp⟩
    obtain ⟨fs, hf, hi, hl⟩ : ∃ fs : List Value, KatTups s.heap vs fs ∧ (∀ f ∈ fs, ∃ x t, f = Value.int x t) ∧ fs.length = vs.length := by
      clear h2 hT
      induction vs with
      | nil => exact ⟨[], .nil, (fun f hf => by cases hf), rfl⟩
      | cons v vs ih =>
        obtain ⟨fs, h1, h3, h4⟩ := ih (fun u hu => hp u (List.mem_cons_of_mem _ hu)) fun u hu => hall u (List.mem_cons_of_mem _ hu)
        obtain ⟨a, its, rfl, ⟨o, ho, hc, n, hd⟩, hi⟩ := hp v List.mem_cons_self
        have hne := hall _ List.mem_cons_self
        cases e : its.toList with
        | nil =>
          rw [e] at hi
          cases q : k (.ref a) with
          | nil => exact absurd q hne
          | cons _ _ => rw [q] at hi; cases hi
        | cons f r =>
          rw [e] at hi
          cases q : k (.ref a) with
          | nil => exact absurd q hne
          | cons x ns =>
            rw [q] at hi
            cases hi with
            | cons x t hr => exact ⟨.int x t :: fs, .cons ho hc hd (by rw [← Array.getElem?_toList, e]; rfl) h1, fun f hf => by
                rcases List.mem_cons.mp hf with z | z
                · exact ⟨x, t, z⟩
                · exact h3 f z, by rw [List.length_cons, List.length_cons, h4]⟩
    refine kat_kind (T := .type "int") hf (by omega) (fun f hm => ?_) (by rfl) ?_
    · obtain ⟨x, t, rfl⟩ := hi f hm
      exact PySem.W.Looks.now
    · have e : (Value.type "int" != Value.type "tuple") = true := by first | decide +kernel | rfl | decide
      rw [e]
      exact hq
  · -- some of them is empty
    have key : ∀ (fs : List (Option Value)), Paired (fun f k => (k = [] ∧ f = none) ∨ ∃ x r t, k = x :: r ∧ f = some (.int x t)) fs (vs.map k) → (fs.toArray.all fun x => x.isSome) = false := by
      intro fs hf
      cases e : (fs.toArray.all fun x => x.isSome) with
      | false => rfl
      | true =>
        refine absurd ?_ hall
        rw [List.all_toArray, List.all_eq_true] at e
        clear h2 hT hall hp
        induction vs generalizing fs with
        | nil => intro v hv; cases hv
        | cons v vs ih =>
          cases hf with
          | cons h1 h2 =>
            intro u hu
            rcases List.mem_cons.mp hu with z | z
            · subst z
              rcases h1 with ⟨_, q⟩ | ⟨x, r, t, q, _⟩
              · have := e _ List.mem_cons_self
                rw [q] at this
                cases this
              · rw [q]
                exact fun z => nomatch z
            · exact ih _ h2 (fun x hx => e x (List.mem_cons_of_mem _ hx)) u z
    by_cases hf : ∃ v rest, vs = v :: rest ∧ k v ≠ []
    · obtain ⟨v, rest, rfl, hv⟩ := hf
      refine ⟨general', fun Q E hq => ?_, cmp_gen hu hp⟩
      rw [kat_kind_eq, List.mapM_toArray, map_eq_pure_bind]
      refine wpAny_bind (wpAny_bind (firsts_any _ _ (ti_pairs _ hp) fun fs h => wpAny_pure ?_))
      rw [key fs h, if_neg (by decide)]
      cases h with
      | cons h1 h2 =>
        rcases h1 with ⟨q, _⟩ | ⟨x, r, t, _, q⟩
        · exact absurd q hv
        · subst q
          simp only [List.getElem?_toArray, List.getElem?_cons_zero, Option.bind_some, id, Option.isSome_some, if_true]
          exact wpAny_pure hq
    · refine ⟨oneType', fun Q E hq => ?_, cmp_one hu hp⟩
      rw [kat_kind_eq, List.mapM_toArray, map_eq_pure_bind]
      refine wpAny_bind (wpAny_bind (firsts_any _ _ (ti_pairs _ hp) fun fs h => wpAny_pure ?_))
      rw [key fs h, if_neg (by decide)]
      obtain ⟨v, rest, rfl⟩ : ∃ f fr, vs = f :: fr := by
        match vs, h2 with
        | f :: fr, _ => exact ⟨f, fr, rfl⟩
      cases h with
      | cons h1 h3 =>
        rcases h1 with ⟨_, q⟩ | ⟨x, r, t, q, _⟩
        · subst q
          simp only [List.getElem?_toArray, List.getElem?_cons_zero, Option.bind_some, id, Option.isSome_none, Bool.false_eq_true, if_false]
          refine wpAny_bind (one_type (by omega) hT (by rfl) ?_)
          exact wpAny_pure hq
        · exact absurd ⟨v, rest, rfl, fun z => by rw [z] at q; cases q⟩ hf

/-! ### sorted(..) over anything that is collected -/
/-- what is known behind the collecting -/
structure Col (s : Shared) (P : List Value → Prop) (vs : List Value) (s1 : Shared) : Prop where
  keep : ∀ b o, s.heap.get? b = some o → s1.heap.get? b = some o
  size : s.heap.objs.size ≤ s1.heap.objs.size
  gens : s1.gens = s.gens
  os : s1.os = s.os
  held : P vs
/-- the sorted list at p -/
structure Sor (s : Shared) (ltv : Value → Value → Bool) (P : List Value → Prop) (p : Addr) (out : List Value) (s2 : Shared) : Prop where
  keep : ∀ b o, s.heap.get? b = some o → s2.heap.get? b = some o
  new : s.heap.objs.size ≤ p
  gens : s2.gens = s.gens
  os : s2.os = s.os
  obj : ∃ c, s2.heap.get? p = some (seqObj "list" out.toArray c)
  ord : SrtO.Srtd ltv out
  per : ∃ vs, P vs ∧ SrtO.Stb ltv out vs
theorem sorted_by {v : Value} {ltv : Value → Value → Bool} {P : List Value → Prop} {Q : Value → Shared → Prop} (O : SrtO.Swo ltv) (hz : ∀ vs, P vs → vs.length ≤ sizeLine) (hcol : wpAny (model prog w) A.in1 (collect v) (Col s P) E s)
    (hS : ∀ vs s1 a, Col s P vs s1 → 2 ≤ vs.length → s1.heap.get? a = some (seqObj "list" vs.toArray 0) → s.heap.objs.size ≤ a → SrtO.SortableO prog w A.in1.in1 s1 a vs ltv)
    (h : ∀ p out s2, Sor s ltv P p out s2 → Q (.ref p) s2) : wpAny (model prog w) A (call (.builtin "sorted") [v]) Q E s := by
  refine Calls.call_function_entry kind_sorted plain_sorted entry_sorted (args_sorted1 _) ?_
  unfold Builtin.«sorted»
  refine wpAny_bind (m := checkCount "sorted" 1 1 _) (wpAny_pure ?_)
  refine wpAny_bind (wpAny_mono hcol (fun vs s1 C => ?_) fun _ _ x => x)
  have hv := hz vs C.held
  refine wpAny_bind (wpAny_newList ?_ hv)
  have hoL : (s1.heap.push (seqObj "list" vs.toArray 0)).get? s1.heap.objs.size = some (seqObj "list" vs.toArray 0) := Heap.get?_push_size _ rfl
  have C2 : Col s P vs { s1 with heap := s1.heap.push (seqObj "list" vs.toArray 0) } := ⟨fun b o e => Heap.get?_push_of_some _ (C.keep b o e), by
    show s.heap.objs.size ≤ (s1.heap.push (seqObj "list" vs.toArray 0)).objs.size
    rw [Heap.size_push]
    exact Nat.le_succ_of_le C.size, C.gens, C.os, C.held⟩
  refine wpAny_bind (wpAny_holding (wpAny_call_entry (s := { s1 with heap := s1.heap.push (seqObj "list" vs.toArray 0) }) slot_list_sort ⟨_, hoL, rfl⟩ entry_list_sort
    (SrtO.list_sort_ord (s := { s1 with heap := s1.heap.push (seqObj "list" vs.toArray 0) }) O hoL hv (fun h2 => hS vs _ _ C2 h2 hoL C.size) fun out hs hb => ⟨_, rfl, ?_⟩) (args_list_sort _)))
  refine wpAny_pure ⟨_, rfl, h _ out _ ⟨fun b o e => ?_, C.size, C.gens, C.os, ?_, hs, vs, C.held, hb⟩⟩
  · have q := C.keep b o e
    have hlt := Heap.lt_size q
    show (sortedHeap (s1.heap.push (seqObj "list" vs.toArray 0)) s1.heap.objs.size vs out.toArray).get? b = some o
    rw [sortedHeap_old (Nat.ne_of_lt hlt) (by rw [size_push']; exact Nat.lt_succ_of_lt hlt)]
    exact Heap.get?_push_of_some _ q
  · exact sortedHeap_at (vs := vs) (out := out.toArray) hoL
/-- a list, a tuple collected -/
theorem col_list {l : Addr} {vs : List Value} (hl : s.heap.IsList l vs.toArray) (hz : vs.length ≤ sizeLine) : wpAny (model prog w) A (collect (.ref l)) (Col s (fun us => us = vs)) E s := by
  refine collect_list hl ⟨fun b o e => ?_, ?_, rfl, rfl, rfl⟩ hz
  · rw [Heap.get?_update_ne _ _ _ _ (Nat.ne_of_lt (Heap.lt_size e))]
    exact Heap.get?_push_of_some _ e
  · show s.heap.objs.size ≤ ((s.heap.push (seqObj "list" #[] 0)).update s.heap.objs.size (Obj.mapSeq (· ++ vs.toArray))).objs.size
    rw [Heap.size_update, Heap.size_push]
    exact Nat.le_succ _
theorem col_tup {l : Addr} {vs : List Value} (hl : IsTup s.heap l vs.toArray) (hz : vs.length ≤ sizeLine) : wpAny (model prog w) A (collect (.ref l)) (Col s (fun us => us = vs)) E s := by
  obtain ⟨o, ho, hc, n, hd⟩ := id hl
  unfold collect
  refine wpAny_bind (wpAny_runValue (codeAny_builtin entry_proto_collect' ?_))
  show wpAny _ _ (do again (.builtin "list.__iadd__" ⟨[← newList [], .ref l], []⟩)) _ _ s
  refine wpAny_bind (wpAny_newList (wpAny_pure ⟨Code.quiet_builtin _ (by decide +kernel), codeAny_builtin entry_list_iadd' ?_⟩))
  show wpAny _ _ (Builtin.List.listExtendWith (.ref s.heap.objs.size) (.ref l) (.ref s.heap.objs.size)) _ _ { s with heap := s.heap.push (seqObj "list" #[] 0) }
  unfold Builtin.List.listExtendWith
  have ho' : (s.heap.push (seqObj "list" #[] 0)).get? l = some o := Heap.get?_push_of_some _ ho
  refine wpAny_bind (wpAny_typeOf (T := "tuple") ⟨o, ho', hc⟩ ?_)
  have ht : (Value.type "tuple" == Value.type "tuple") = true := by rfl
  rw [if_pos (by rw [ht, Bool.or_true])]
  refine wpAny_bind (listItems_at ho' hd ?_)
  refine wpAny_bind (listItems_at (xs := #[]) (n := 0) (Heap.get?_push_size _ rfl) rfl ?_)
  rw [if_neg (by simp)]
  refine wpAny_bind (listUpdate_at (xs := #[]) (n := 0) (Heap.get?_push_size _ rfl) rfl ?_ (Nat.zero_le _) (by show (#[] ++ vs.toArray).size ≤ sizeLine + 1; simp only [Array.size_append, List.size_toArray, List.length_nil]; omega))
  refine wpAny_pure ?_
  show wpAny (model prog w) A (do
      let o ← load s.heap.objs.size
      match o.data with
      | .seq xs _ => pure xs.toList
      | _ => unsupported "internal:collect") _ E { s with heap := (s.heap.push (seqObj "list" #[] 0)).update s.heap.objs.size (Obj.mapSeq (· ++ vs.toArray)) }
  refine wpAny_bind (wpAny_load (get?_update_seq (Heap.get?_push_size _ rfl) _) ?_)
  show wpAny _ _ (pure ((#[] : Array Value) ++ vs.toArray).toList) _ E _
  rw [show ((#[] : Array Value) ++ vs.toArray).toList = vs by simp]
  refine wpAny_pure ⟨fun b o e => ?_, ?_, rfl, rfl, rfl⟩
  · show ((s.heap.push (seqObj "list" #[] 0)).update s.heap.objs.size (Obj.mapSeq (· ++ vs.toArray))).get? b = some o
    rw [Heap.get?_update_ne _ _ _ _ (Nat.ne_of_lt (Heap.lt_size e))]
    exact Heap.get?_push_of_some _ e
  · show s.heap.objs.size ≤ ((s.heap.push (seqObj "list" #[] 0)).update s.heap.objs.size (Obj.mapSeq (· ++ vs.toArray))).objs.size
    rw [Heap.size_update, Heap.size_push]
    exact Nat.le_succ _
end
end G9S

/-! Layer T: sets of tuples of ints, made of a tuple; sorted of them. -/
namespace G9S
open PySem PySem.Spec PyProof.Rows L2
section
variable {P : Program} {w : World} {A : Around} {E : Value → Shared → Prop} {s : Shared}
/-- the new set of set(..) -/
abbrev set0 (w : World) : Obj := { cls := .type "set", dict := none, data := .set #[] 0 (.fresh 0 0 (!w.params.followText "set-order")) }
/-- set(t), t a tuple of tuples of ints -/
theorem set_of_tup {l : Addr} {items : Array Value} (ks : List (Addr × List Int)) {Q : Value → Shared → Prop} (hh : A.handled = none) (hl : s.heap.IsTuple l items) (hit : items.toList = ks.map fun p => Value.ref p.1)
    (hk : ∀ p ∈ ks, IsT P w s.heap p.2 p.1) (hfew : ks.length < 64) (hu : A.units + 3 < cLine)
    (h : ∀ (h' : Heap) (tk : Nat) L es ep t, SetTR P w h' s.heap.objs.size L es ep t → Got ks ks.length L → (∀ b o, s.heap.get? b = some o → h'.get? b = some o) → Q (.ref s.heap.objs.size) { s with heap := h', toks := tk }) :
    wpAny (model P w) A (call (.type "set") [.ref l]) Q E s := by
  have many : items.size = ks.length := by
    rw [← Array.length_toList, hit, List.length_map]
  obtain ⟨c, tl, hmro⟩ := F.called_set.mro
  have f1 := F.called_set.made
  have f2 := F.called_set.sub
  have f3 := F.called_set.notType
  have f4 := F.called_set.canCreate
  have f5 := F.typeCall_set_1 (.ref l)
  refine wpAny_call (codeAny_of_tree ?_)
  show wpAny _ _ (callAny (.type "set") _) _ _ _
  refine wpAny_pure ⟨Code.quiet_builtin _ (by decide +kernel), codeAny_builtin F.entry_type_call ?_⟩
  rw [Around.under_plain (weight_type_call_type "set" [.ref l] []) rfl]
  repeat (any_goals (first | assumption | wp_step))
  refine codeAny_mono (code_set_led1 (.ref l) (E := E) (Q₁ := fun obj s1 => obj = .ref s.heap.objs.size ∧ s1 = { s with heap := s.heap.push (set0 w) }) ⟨rfl, rfl⟩) fun r s1 hr => ?_
  cases r with
  | error e => exact hr
  | ok fl =>
    cases fl with
    | next => exact hr.elim
    | brk => exact hr.elim
    | cont => exact hr.elim
    | ret obj =>
      obtain ⟨rfl, rfl⟩ := hr
      have hS : (s.heap.push (set0 w)).get? s.heap.objs.size = some (set0 w) := Heap.get?_push_size _ rfl
      have hT : Shared.TypeIs { s with heap := s.heap.push (set0 w) } (.ref s.heap.objs.size) "set" := ⟨_, hS, rfl⟩
      have g1 := F.called_set.init.lookup
      have g2 := F.called_set.init.bind (.ref s.heap.objs.size)
      repeat (any_goals (first | assumption | wp_step))
      refine codeAny_mono (codeAny_call_builtin (R := wants (fun r s2 => r = .none ∧ ∃ h' tk L es ep t, s2 = { s with heap := h', toks := tk } ∧ SetTR P w h' s.heap.objs.size L es ep t ∧ Got ks ks.length L ∧ (∀ b o, s.heap.get? b = some o → h'.get? b = some o)) E)
        F.called_set.init.plain F.entry_set_init (check_set_init_1 hT ?_)) fun r2 s2 hr2 => ?_
      · obtain ⟨⟨ocls, odict, odata, oslots⟩, hol, hcl, nl, hdl⟩ := hl
        simp only at hcl hdl
        subst hcl hdl
        have hol' : (s.heap.push (set0 w)).get? l = some { cls := .type "tuple", dict := odict, data := .seq items nl, slots := oslots } := Heap.get?_push_of_some _ hol
        have k1 := F.sub_tuple_set
        have k2 := F.sub_tuple_frozenset
        have k3 : (Value.type "tuple" == Value.type "dict") = false := by decide
        have hl1 : (s.heap.push (set0 w)).IsTuple l items := ⟨_, hol', rfl, nl, rfl⟩
        unfold Builtin.«set.__init__» noKeywords Builtin.Frozenset.updateFrom
        generalize hPI : pyIter = PI
        wp_walk
        subst hPI
        refine wpAny_pyIter_tuple hl1 ?_
        refine wpAny_bind (wpAny_runValue ?_)
        have below : l < s.heap.objs.size := Heap.lt_size hol
        have sz1 : (s.heap.push (set0 w)).objs.size = s.heap.objs.size + 1 := Heap.size_push ..
        have calm : A.in1.in1.in1.handled = none := by simp [hh]
        have apart : s.heap.objs.size ∉ [(s.heap.push (set0 w)).objs.size, l] := by
          rw [sz1]
          simp only [List.mem_cons, List.not_mem_nil, or_false, not_or]
          exact ⟨Nat.ne_of_lt (Nat.lt_succ_self _), Nat.ne_of_gt below⟩
        have vals : ∀ (i : Nat) (v : Value), items[i]? = some v → ∃ p, ks[i]? = some p ∧ v = .ref p.1 := fun i v hv => by
          have q : items.toList[i]? = some v := by rw [Array.getElem?_toList]; exact hv
          rw [hit, List.getElem?_map] at q
          cases hq : ks[i]? with
          | none => rw [hq] at q; cases q
          | some p => rw [hq] at q; exact ⟨p, rfl, (Option.some.inj q).symm⟩
        have free : ∀ b, s.heap.objs.size ≤ b → s.heap.get? b = none := fun b hb => Heap.get?_none_of_le hb
        refine set_update_tups ((Walks.tuple calm _ l (by rw [sz1]; exact Nat.ne_of_lt (Nat.lt_succ_of_lt below)) items).toS) s.heap.objs.size apart ks many hfew vals s.heap hk (free _ (Nat.le_refl _))
          (fun b hb => free b (by rw [List.mem_singleton.mp hb, sz1]; exact Nat.le_succ _)) hu (items.size - 0) 0 _ (by omega) (Nat.zero_le _) ⟨⟨_, Heap.get?_push_size _ rfl, rfl, rfl⟩, (hl1.push _)⟩
          (fun b o e => Heap.get?_push_of_some _ (Heap.get?_push_of_some _ e)) ⟨[], #[], 0, _, setTR_fresh (Heap.get?_push_of_some _ hS), Got.zero ks⟩ fun s' L es ep t hm hS' g' hkp => ?_
        obtain ⟨h', g2, d', tk', os'⟩ := s'
        cases (show g2 = s.gens from hm.gens)
        cases (show d' = s.drawn from hm.drawn)
        cases (show os' = s.os from hm.os)
        refine wpAny_pure ?_
        show wpAny _ _ (ret Value.none) _ _ _
        rw [many] at g'
        exact wpAny_pure ⟨rfl, h', tk', L, es, ep, t, rfl, hS', g', hkp⟩
      · cases r2 with
        | error e => exact hr2
        | ok fl2 =>
          cases fl2 with
          | ret r =>
            obtain ⟨rfl, h', tk, L, es, ep, t, rfl, hS', g', hk'⟩ := hr2
            repeat (any_goals (first | assumption | wp_step))
            exact h _ _ _ _ _ _ hS' g' hk'
          | next => exact hr2.elim
          | brk => exact hr2.elim
          | cont => exact hr2.elim
end
end G9S

/-! Layer U: sorted, set as rules by data. -/
namespace G9
open PySem PySem.Spec PyProof.Rows L2

/-! ### orders, sorted lists (plain) -/
structure Sto {α : Type} (lt : α → α → Bool) : Prop where
  irr : ∀ a, lt a a = false
  tr : ∀ a b c, lt a b = true → lt b c = true → lt a c = true
  tot : ∀ a b, lt a b = false → lt b a = false → a = b
section
variable {α : Type} {lt : α → α → Bool}
def ins (lt : α → α → Bool) (x : α) : List α → List α
  | [] => [x]
  | y :: l => if lt y x then y :: ins lt x l else x :: y :: l
def isort (lt : α → α → Bool) : List α → List α
  | [] => []
  | x :: l => ins lt x (isort lt l)
/-- each once -/
def insU (lt : α → α → Bool) (x : α) : List α → List α
  | [] => [x]
  | y :: l => if lt x y then x :: y :: l else if lt y x then y :: insU lt x l else y :: l
def usort (lt : α → α → Bool) : List α → List α
  | [] => []
  | x :: l => insU lt x (usort lt l)
theorem Sto.asym (O : Sto lt) {a b : α} (h : lt a b = true) : lt b a = false := by
  cases e : lt b a with
  | false => rfl
  | true =>
    have := O.tr a b a h e
    rw [O.irr] at this
    cases this
theorem ins_perm (x : α) : ∀ l : List α, (ins lt x l).Perm (x :: l)
  | [] => List.Perm.refl _
  | y :: l => by
    unfold ins
    split
    · exact ((ins_perm x l).cons y).trans (List.Perm.swap x y l)
    · exact List.Perm.refl _
theorem isort_perm : ∀ l : List α, (isort lt l).Perm l
  | [] => List.Perm.refl _
  | x :: l => (ins_perm x _).trans ((isort_perm l).cons x)
theorem ins_mem {x y : α} {l : List α} : y ∈ ins lt x l ↔ y = x ∨ y ∈ l := by
  rw [(ins_perm x l).mem_iff, List.mem_cons]
theorem ins_le (O : Sto lt) (x : α) : ∀ l : List α, l.Pairwise (fun a b => lt b a = false) → (ins lt x l).Pairwise (fun a b => lt b a = false)
  | [], _ => List.pairwise_singleton _ _
  | y :: l, h => by
    obtain ⟨h1, h2⟩ := List.pairwise_cons.mp h
    unfold ins
    split
    · rename_i hyx
      refine List.pairwise_cons.mpr ⟨fun z hz => ?_, ins_le O x l h2⟩
      rcases ins_mem.mp hz with e | hz
      · rw [e]
        exact O.asym hyx
      · exact h1 z hz
    · rename_i hyx
      have hyx : lt y x = false := by simpa using hyx
      refine List.pairwise_cons.mpr ⟨fun z hz => ?_, h⟩
      rcases List.mem_cons.mp hz with e | hz
      · rw [e]
        exact hyx
      · cases e : lt z x with
        | false => rfl
        | true =>
          have hz1 := h1 z hz
          cases e2 : lt y z with
          | true =>
            rw [O.tr y z x e2 e] at hyx
            cases hyx
          | false =>
            rw [O.tot y z e2 hz1, e] at hyx
            cases hyx
theorem isort_le (O : Sto lt) : ∀ l : List α, (isort lt l).Pairwise (fun a b => lt b a = false)
  | [] => List.Pairwise.nil
  | x :: l => ins_le O x _ (isort_le O l)
theorem sorted_eq (O : Sto lt) {a b : List α} (p : a.Perm b) (h : a.Pairwise (fun x y => lt y x = false)) : a = isort lt b :=
  List.Perm.eq_of_pairwise (le := fun x y => lt y x = false) (fun x y _ _ h1 h2 => O.tot x y h2 h1) h (isort_le O b) (p.trans (isort_perm b).symm)
theorem insU_mem (O : Sto lt) {x y : α} : ∀ {l : List α}, y ∈ insU lt x l ↔ y = x ∨ y ∈ l
  | [] => by simp [insU]
  | z :: l => by
    unfold insU
    split
    · rw [List.mem_cons]
    · split
      · rw [List.mem_cons, insU_mem O (l := l), List.mem_cons]
        constructor
        · rintro (e | e | e)
          · exact .inr (.inl e)
          · exact .inl e
          · exact .inr (.inr e)
        · rintro (e | e | e)
          · exact .inr (.inl e)
          · exact .inl e
          · exact .inr (.inr e)
      · rename_i h1 h2
        have e : x = z := O.tot x z (by simpa using h1) (by simpa using h2)
        rw [List.mem_cons]
        constructor
        · exact .inr
        · rintro (q | q)
          · rw [q, e]
            exact .inl rfl
          · exact q
theorem usort_mem (O : Sto lt) {y : α} : ∀ {l : List α}, y ∈ usort lt l ↔ y ∈ l
  | [] => by simp [usort]
  | x :: l => by
    unfold usort
    rw [insU_mem O, usort_mem O (l := l), List.mem_cons]
theorem insU_lt (O : Sto lt) (x : α) : ∀ l : List α, l.Pairwise (fun a b => lt a b = true) → (insU lt x l).Pairwise (fun a b => lt a b = true)
  | [], _ => List.pairwise_singleton _ _
  | y :: l, h => by
    obtain ⟨h1, h2⟩ := List.pairwise_cons.mp h
    unfold insU
    split
    · rename_i hxy
      refine List.pairwise_cons.mpr ⟨fun z hz => ?_, h⟩
      rcases List.mem_cons.mp hz with e | hz
      · rw [e]
        exact hxy
      · exact O.tr x y z hxy (h1 z hz)
    · split
      · rename_i h3 hyx
        refine List.pairwise_cons.mpr ⟨fun z hz => ?_, insU_lt O x l h2⟩
        rcases (insU_mem O).mp hz with e | hz
        · rw [e]
          exact hyx
        · exact h1 z hz
      · exact h
theorem usort_lt (O : Sto lt) : ∀ l : List α, (usort lt l).Pairwise (fun a b => lt a b = true)
  | [] => List.Pairwise.nil
  | x :: l => insU_lt O x _ (usort_lt O l)
theorem lt_nodup (O : Sto lt) {l : List α} (h : l.Pairwise (fun a b => lt a b = true)) : l.Nodup := h.imp fun {a b} q e => by
  rw [e, O.irr] at q
  cases q
theorem strict_eq (O : Sto lt) {a b : List α} (ha : a.Pairwise (fun x y => lt x y = true)) (hb : b.Pairwise (fun x y => lt x y = true)) (h : ∀ x, x ∈ a ↔ x ∈ b) : a = b :=
  List.Perm.eq_of_pairwise (le := fun x y => lt x y = true) (fun x y _ _ h1 h2 => by
    rw [O.asym h1] at h2
    cases h2) ha hb ((List.perm_ext_iff_of_nodup (lt_nodup O ha) (lt_nodup O hb)).mpr h)
theorem usort_eq (O : Sto lt) {a b : List α} (ha : a.Pairwise (fun x y => lt x y = true)) (h : ∀ x, x ∈ a ↔ x ∈ b) : a = usort lt b :=
  strict_eq O ha (usort_lt O b) fun x => (h x).trans (usort_mem O).symm
end
def ltI (a b : Int) : Bool := decide (a < b)
theorem stoI : Sto ltI := ⟨fun a => decide_eq_false (Int.lt_irrefl a), fun a b c h1 h2 => decide_eq_true (Int.lt_trans (of_decide_eq_true h1) (of_decide_eq_true h2)), fun a b h1 h2 => by
  have := of_decide_eq_false h1
  have := of_decide_eq_false h2
  omega⟩
theorem lexLt_tot : ∀ a b : List Int, HT.lexLt a b = false → HT.lexLt b a = false → a = b
  | [], [], _, _ => rfl
  | [], y :: ys, h, _ => by rw [HT.lexLt_nil_cons] at h; cases h
  | x :: xs, [], _, h => by rw [HT.lexLt_nil_cons] at h; cases h
  | x :: xs, y :: ys, h1, h2 => by
    rw [HT.lexLt_cons] at h1 h2
    by_cases e : x = y
    · subst e
      rw [if_pos rfl] at h1 h2
      rw [lexLt_tot xs ys h1 h2]
    · rw [if_neg e] at h1
      rw [if_neg (fun z => e z.symm)] at h2
      have := of_decide_eq_false h1
      have := of_decide_eq_false h2
      omega
theorem stoL : Sto HT.lexLt := by
  have irr : ∀ a : List Int, HT.lexLt a a = false := fun a => by
    cases e : HT.lexLt a a with
    | false => rfl
    | true =>
      have := NtL.lex_asym a a e
      rw [e] at this
      cases this
  refine ⟨irr, fun a b c h1 h2 => ?_, lexLt_tot⟩
  cases e : HT.lexLt a c with
  | true => rfl
  | false =>
    have q := NtL.lex_asym b c h2
    have z := NtL.lex_tr b c a q e
    rw [h1] at z
    cases z
end G9
namespace G9S
open PySem PySem.Spec PyProof.Rows L2 G9
section
variable {X : Cx}
theorem state_eta {s s' : Shared} (ho : s'.os = s.os) : s' = { s with heap := s'.heap, gens := s'.gens, drawn := s'.drawn, toks := s'.toks } := by
  cases s'
  cases s
  cases ho
  rfl
/-- behind sorted(..): the new list -/
theorem Sor.inv {pins : List (Addr × Obj)} {σ : L2.St} {H : Hp} {s s2 : Shared} {ltv : Value → Value → Bool} {P : List Value → Prop} {p : Addr} {out : List Value} {ys : List V} (I : Inv X pins σ H s) (S : Sor s ltv P p out s2) (rv : Vals ys out) (hz : ys.length ≤ sizeLine) :
    Inv X pins σ (upd H p (.lst ys)) s2 ∧ H p = none := by
  have hn : H p = none := I.hok.fresh S.new
  obtain ⟨c, hc⟩ := S.obj
  have J : Inv X pins σ (upd H p (.lst ys)) { s with heap := s2.heap, gens := s2.gens, drawn := s2.drawn, toks := s2.toks } :=
    I.call (ch := []) (Un.laid S.keep S.new hn) (I.hok.laid S.keep S.new ⟨hz, out, c, rv, hc⟩) (by rw [S.gens]; exact I.bare) (fun _ z => nomatch z)
  rw [state_eta S.os]
  exact ⟨J, hn⟩
/-- the ints of a value that is a tuple of ints -/
noncomputable def keyT (h : Heap) (v : Value) : List Int := by
  classical exact if q : ∃ ns, TI h v ns then q.choose else []
theorem ti_one {h : Heap} {v : Value} {a b : List Int} (x : TI h v a) (y : TI h v b) : a = b := by
  obtain ⟨p, its, rfl, ⟨o, ho, hc, n, hd⟩, hi⟩ := x
  obtain ⟨p', its', e, ⟨o', ho', hc', n', hd'⟩, hi'⟩ := y
  cases e
  rw [ho] at ho'
  cases ho'
  rw [hd] at hd'
  cases hd'
  have e1 := SrtO.iv_ints hi
  have e2 := SrtO.iv_ints hi'
  rw [← e1, ← e2]
theorem keyT_of {h : Heap} {v : Value} {ns : List Int} (x : TI h v ns) : keyT h v = ns := by
  unfold keyT
  rw [dif_pos ⟨ns, x⟩]
  exact ti_one (Exists.choose_spec (p := fun ns => TI h v ns) ⟨ns, x⟩) x
theorem Inv.ti {pins : List (Addr × Obj)} {σ : L2.St} {H : Hp} {s : Shared} {b : Addr} {k : List Int} (I : Inv X pins σ H s) (h : SqT X.K H b (k.map V.int)) : TI s.heap (.ref b) k := by
  obtain ⟨its, r, ht, _⟩ := I.tuple h
  exact ⟨b, its.toArray, rfl, ht, by simpa using r.ints⟩
/-- tuples of ints can be sorted -/
theorem ti_sortable {prog : Program} {w : World} {A : Around} {s s1 : Shared} {P : List Value → Prop} {vs : List Value} {a : Addr} (C : Col s P vs s1) (h2 : 2 ≤ vs.length) (hu : A.units < cLine) (ha : s1.heap.get? a = some (seqObj "list" vs.toArray 0)) (hv : ∀ v ∈ vs, ∃ ns, TI s.heap v ns) :
    SrtO.SortableO prog w A s1 a vs (fun v u => HT.lexLt (keyT s.heap v) (keyT s.heap u)) := by
  intro h' keep
  refine kind_any (s := { s1 with heap := h' }) h2 hu fun v hm => ?_
  obtain ⟨ns, x⟩ := hv v hm
  rw [keyT_of x]
  refine x.keep fun b o e c => keep b o (fun z => ?_) (C.keep b o e)
  subst z
  rw [C.keep b o e] at ha
  cases ha
  exact absurd c (by simp [seqObj])
/-- sorted(l), l a list of tuples of ints -/
def rSortLT (K : PySem.W.Frag) : List V → Hp → VK → Prop := fun vs H Q => ∃ (a : Addr) (ks : List (Addr × List Int)), vs = [V.ref a] ∧ SqL K H a (ks.map fun p => V.ref p.1) ∧ (∀ p ∈ ks, SqT K H p.1 (p.2.map V.int)) ∧
  ∀ (ks' : List (Addr × List Int)) (p : Addr), (∀ q ∈ ks', q ∈ ks) → ks'.map (·.2) = isort HT.lexLt (ks.map (·.2)) → H p = none → Q (.ref p) (upd H p (.lst (ks'.map fun p => V.ref p.1)))
/-- the values found again -/
theorem back {h : Heap} {ks : List (Addr × List Int)} (hk : ∀ p ∈ ks, TI h (.ref p.1) p.2) : ∀ {out : List Value}, (∀ v ∈ out, v ∈ ks.map fun p => Value.ref p.1) → ∃ ks' : List (Addr × List Int), out = ks'.map (fun p => Value.ref p.1) ∧ (∀ q ∈ ks', q ∈ ks) ∧ ks'.map (·.2) = out.map (keyT h)
  | [], _ => ⟨[], rfl, (fun q hq => nomatch hq), rfl⟩
  | v :: out, hv => by
    obtain ⟨ks', e1, e2, e3⟩ := back hk (out := out) fun u hu => hv u (List.mem_cons_of_mem _ hu)
    obtain ⟨p, hp, e⟩ := List.mem_map.mp (hv v List.mem_cons_self)
    refine ⟨p :: ks', by rw [List.map_cons, e, ← e1], fun q hq => ?_, ?_⟩
    · rcases List.mem_cons.mp hq with z | z
      · rw [z]
        exact hp
      · exact e2 q z
    · rw [List.map_cons, List.map_cons, e3, ← e, keyT_of (hk p hp)]
theorem keys_of {h : Heap} : ∀ {ks : List (Addr × List Int)}, (∀ p ∈ ks, TI h (.ref p.1) p.2) → (ks.map fun p => Value.ref p.1).map (keyT h) = ks.map (·.2)
  | [], _ => rfl
  | p :: ks, hk => by
    rw [List.map_cons, List.map_cons, List.map_cons, keys_of fun q hq => hk q (List.mem_cons_of_mem _ hq), keyT_of (hk p List.mem_cons_self)]
theorem srt_keys {ltv : Value → Value → Bool} {h : Heap} {out vs : List Value} (el : ltv = fun v u => HT.lexLt (keyT h v) (keyT h u)) (h1 : SrtO.Srtd ltv out) (h2 : out.Perm vs) : out.map (keyT h) = isort HT.lexLt (vs.map (keyT h)) :=
  sorted_eq stoL (h2.map _) (List.pairwise_map.mpr (by rw [el] at h1; exact h1))
theorem cr_sortLT (hu : X.A.units + 64 < cLine) : CallR X (.builtin "sorted") (rSortLT X.K) := by
  intro pins s σ H vs us Q I r h
  obtain ⟨a, ks, rfl, hs, hk, q⟩ := h
  rw [Vals.ref1 r]
  obtain ⟨its, rv, pl, hz⟩ := I.list hs
  have e1 : its = ks.map fun p => Value.ref p.1 := refs_of_vals rv
  have hk' : ∀ p ∈ ks, TI s.heap (.ref p.1) p.2 := fun p hp => Inv.ti I (hk p hp)
  refine sorted_by (P := fun us => us = its) (ltv := fun v u => HT.lexLt (keyT s.heap v) (keyT s.heap u)) (NtL.swo_lexL _) (fun vs e => by rw [e, ← rv.length]; exact hz) (col_list pl.isList (by rw [← rv.length]; exact hz)) (fun vs s1 a C h2 ha _ => ?_) fun p out s2 S => ?_
  · refine ti_sortable C h2 (by show X.A.units + _ + _ < cLine; omega) ha fun v hm => ?_
    rw [C.held, e1] at hm
    obtain ⟨p, hp, e⟩ := List.mem_map.mp hm
    exact ⟨p.2, e ▸ hk' p hp⟩
  · obtain ⟨vs, ev, hb⟩ := S.per
    rw [ev, e1] at hb
    obtain ⟨ks', e2, e3, e4⟩ := back hk' (out := out) fun v hv => hb.perm.mem_iff.mp hv
    have e5 := srt_keys rfl S.ord hb.perm
    rw [keys_of hk', ← e4] at e5
    have hlen : (ks'.map fun p => V.ref p.1).length ≤ sizeLine := by
      rw [List.length_map] at hz ⊢
      have := congrArg List.length e5
      rw [List.length_map, (isort_perm _).length_eq, List.length_map] at this
      omega
    obtain ⟨J, hn⟩ := Sor.inv I S (by rw [e2]; exact vals_of_refs ks') hlen
    exact ⟨.ref p, _, J, rfl, q ks' p e3 e5 hn⟩
end
end G9S

namespace G9S
open PySem PySem.Spec PyProof.Rows L2 G9
section
variable {X : Cx}
/-- sorted(t), t a tuple of ints -/
def rSortTI (K : PySem.W.Frag) : List V → Hp → VK → Prop := fun vs H Q => ∃ (a : Addr) (ns : List Int), vs = [V.ref a] ∧ SqT K H a (ns.map V.int) ∧ ∀ p : Addr, H p = none → Q (.ref p) (upd H p (.lst ((isort ltI ns).map V.int)))
theorem cr_sortTI : CallR X (.builtin "sorted") (rSortTI X.K) := by
  intro pins s σ H vs us Q I r h
  obtain ⟨a, ns, rfl, hs, q⟩ := h
  rw [Vals.ref1 r]
  obtain ⟨its, rv, ht, hz⟩ := I.tuple hs
  have hi := rv.ints
  refine sorted_by (P := fun us => us = its) (ltv := SrtO.ltIv) SrtO.swo_int (fun vs e => by rw [e, ← rv.length]; exact hz) (col_tup ht (by rw [← rv.length]; exact hz)) (fun vs s1 a C h2 ha _ => ?_) fun p out s2 S => ?_
  · have e := C.held
    subst e
    exact SrtO.ints_sortable hi h2
  · obtain ⟨vs, e, hb⟩ := S.per
    subst e
    obtain ⟨k1, k2, k3⟩ := SrtO.ints_out hi S.ord hb
    have e2 : out.map SrtO.iv = isort ltI ns := sorted_eq stoI k2 (k3.imp fun {x y} z => decide_eq_false (by omega))
    rw [e2] at k1
    have hlen : ((isort ltI ns).map V.int).length ≤ sizeLine := by
      rw [List.length_map] at hz ⊢
      rw [(isort_perm ns).length_eq]
      exact hz
    obtain ⟨J, hn⟩ := Sor.inv I S (vals_of_ints k1) hlen
    exact ⟨.ref p, _, J, rfl, q p hn⟩
/-- set(t), t a tuple of ints -/
def rSetTI (K : PySem.W.Frag) (w : World) : List V → Hp → VK → Prop := fun vs H Q => ∃ (a : Addr) (ns : List Int), vs = [V.ref a] ∧ SqT K H a (ns.map V.int) ∧ ns.length ≤ 1000 ∧ ∀ (p : Addr) (c : Nat), c ≤ ns.length → H p = none → Q (.ref p) (upd H p (SetO w p (fun j => decide (j ∈ ns)) c))
theorem cr_setTI (hc : X.calm = true) : CallR X (.type "set") (rSetTI X.K X.w) := by
  intro pins s σ H vs us Q I r h
  obtain ⟨a, ns, rfl, hs, hl, q⟩ := h
  rw [Vals.ref1 r]
  obtain ⟨its, rv, ht, hz⟩ := I.tuple hs
  have hi : IntsAre its.toArray.toList ns := by simpa using rv.ints
  refine call_set_tupI ns (I.ok.hd hc) (show s.heap.IsTuple a its.toArray from ht) hi (by unfold scanBound; omega) fun h' tk c R hcn k => ?_
  exact ⟨.ref s.heap.objs.size, _, I.laid (t' := tk) k (Nat.le_refl _) (setO_new R), rfl, q _ c hcn (I.hok.fresh (Nat.le_refl _))⟩
/-- set(t), t a tuple of tuples of ints -/
def rSetTT (K : PySem.W.Frag) (P : Program) (w : World) : List V → Hp → VK → Prop := fun vs H Q => ∃ (a : Addr) (ks : List (Addr × List Int)), vs = [V.ref a] ∧ SqT K H a (ks.map fun p => V.ref p.1) ∧ (∀ p ∈ ks, SqT K H p.1 (p.2.map V.int)) ∧ ks.length < 64 ∧
  ∀ p L, H p = none → (∀ q ∈ L, q ∈ ks) → (∀ q ∈ ks, q.2 ∈ L.map (·.2)) → Q (.ref p) (upd H p (SetTO P w p L))
theorem cr_setTT (hc : X.calm = true) (hu : X.A.units + 64 < cLine) : CallR X (.type "set") (rSetTT X.K X.prog X.w) := by
  intro pins s σ H vs us Q I r h
  obtain ⟨a, ks, rfl, hs, hk, hf, q⟩ := h
  rw [Vals.ref1 r]
  obtain ⟨its, rv, ht, hz⟩ := I.tuple hs
  refine set_of_tup (P := X.prog) (w := X.w) ks (I.ok.hd hc) (show s.heap.IsTuple a its.toArray from ht) (by simpa using refs_of_vals rv) (fun p hp => Inv.isT I (hk p hp)) hf (by omega) fun h' tk L es ep t R g k => ?_
  refine ⟨.ref s.heap.objs.size, _, I.laid (t' := tk) k (Nat.le_refl _) (setTO_new R.t0), rfl, q _ L (I.hok.fresh (Nat.le_refl _)) (fun p hp => List.mem_of_mem_take (g.sub p hp)) fun p hp => g.all p ?_⟩
  rw [List.take_length]
  exact hp
/-- sorted(s), s a set of tuples of ints -/
def rSortST (K : PySem.W.Frag) (P : Program) (w : World) : List V → Hp → VK → Prop := fun vs H Q => ∃ (a : Addr) (L : List (Addr × List Int)), vs = [V.ref a] ∧ H a = some (SetTO P w a L) ∧ (∀ p ∈ L, SqT K H p.1 (p.2.map V.int)) ∧
  ∀ (L' : List (Addr × List Int)) (p : Addr), (∀ q ∈ L', q ∈ L) → L'.map (·.2) = usort HT.lexLt (L.map (·.2)) → H p = none → Q (.ref p) (upd H p (.lst (L'.map fun p => V.ref p.1)))
theorem cr_sortST (hc : X.calm = true) (hu : X.A.units + 64 < cLine) : CallR X (.builtin "sorted") (rSortST X.K X.prog X.w) := by
  intro pins s σ H vs us Q I r h
  obtain ⟨a, L, rfl, ha, hk, q⟩ := h
  have R0 : SetT0 X.prog X.w s.heap a L := (I.hok a _ ha).1
  obtain ⟨es, ep, t, R⟩ := R0.full fun p hp => Inv.isT I (hk p hp)
  rw [Vals.ref1 r]
  have hk' : ∀ p ∈ L, TI s.heap (.ref p.1) p.2 := fun p hp => Inv.ti I (hk p hp)
  have hes : es.toList.map (·.2) = L.map fun q => Value.ref q.1 := by
    rw [R.rows]
    unfold rowsOf
    rw [List.map_map]
    rfl
  obtain ⟨o, ho, hex, hd⟩ := R.ob
  have few := R.few
  have hlen : ∀ vs : List Value, vs.Perm (L.map fun q => Value.ref q.1) → vs.length < 64 := fun vs p => by
    rw [p.length_eq, List.length_map]
    exact few
  refine sorted_by (P := fun us => us.Perm (L.map fun q => Value.ref q.1)) (ltv := fun v u => HT.lexLt (keyT s.heap v) (keyT s.heap u)) (NtL.swo_lexL _) (fun vs e => by rw [sizeLine_eq]; have := hlen vs e; omega)
    (collect_set (A := X.A.in1) (I.ok.hd hc) ⟨o, ho, hex.1, hd⟩ R.fits (by have := R.size; unfold scanBound; omega) R.tab.ris R.led fun s1 vs k1 hz g1 o1 pm => ⟨k1, hz, g1, o1, by rw [hes] at pm; exact pm⟩) (fun vs s1 a C h2 ha _ => ?_) fun p out s2 S => ?_
  · refine ti_sortable C h2 (by show X.A.units + _ + _ < cLine; omega) ha fun v hm => ?_
    obtain ⟨p, hp, e⟩ := List.mem_map.mp (C.held.mem_iff.mp hm)
    exact ⟨p.2, e ▸ hk' p hp⟩
  · obtain ⟨vs, ev, hb⟩ := S.per
    have pm := hb.perm.trans ev
    obtain ⟨L', e2, e3, e4⟩ := back hk' (out := out) fun v hv => pm.mem_iff.mp hv
    have e5 := srt_keys rfl S.ord pm
    rw [keys_of hk', ← e4] at e5
    have nd : (L.map (·.2)).Nodup := R.nd
    have e6 : L'.map (·.2) = usort HT.lexLt (L.map (·.2)) := by
      refine usort_eq stoL ?_ fun x => ?_
      · rw [e5]
        have h1 := isort_le stoL (L.map (·.2))
        have h2 : (isort HT.lexLt (L.map (·.2))).Nodup := (isort_perm _).nodup_iff.mpr nd
        refine (h1.and h2).imp fun {x y} z => ?_
        cases e : HT.lexLt x y with
        | true => rfl
        | false => exact absurd (stoL.tot x y e z.1) z.2
      · rw [e5]
        exact (isort_perm _).mem_iff
    have hl2 : (L'.map fun p => V.ref p.1).length ≤ sizeLine := by
      rw [List.length_map, sizeLine_eq]
      have := congrArg List.length e5
      rw [List.length_map, (isort_perm _).length_eq, List.length_map] at this
      omega
    obtain ⟨J, hn⟩ := Sor.inv I S (by rw [e2]; exact vals_of_refs L') hl2
    exact ⟨.ref p, _, J, rfl, q L' p e3 e6 hn⟩
end
end G9S
namespace G9
open PySem PySem.Spec PyProof.Rows L2 G9S
/-! ### by data -/
/-- a set, a row of sets -/
abbrev dS (s : List Int) : D := .tup (s.map D.int)
abbrev dF (f : List (List Int)) : D := .tup (f.map dS)
section
variable {X : Cx} {H0 : Hp} {ρ : Ro} {e : Expr} {pos p p2 p3 : Pos} {ns : List Int} {ks : List (List Int)}
/-- items that are sets: their addresses -/
theorem rp_sets {K : PySem.W.Frag} {G : Hp} : ∀ {ks : List (List Int)} {vs : List V}, RpL K G vs (ks.map dS) → ∃ ps : List (Addr × List Int), vs = (ps.map fun p => V.ref p.1) ∧ ps.map (·.2) = ks ∧ ∀ p ∈ ps, SqT K G p.1 (p.2.map V.int)
  | [], _, .nil => ⟨[], rfl, rfl, fun p hp => nomatch hp⟩
  | k :: ks, _, .cons r t => by
    obtain ⟨ps, e1, e2, e3⟩ := rp_sets t
    obtain ⟨a, xs, e4, h, r2⟩ := r.tup_of
    have e5 := r2.ints_of
    subst e5
    refine ⟨(a, k) :: ps, by rw [List.map_cons, e4, e1], by rw [List.map_cons, e2], fun q hq => ?_⟩
    rcases List.mem_cons.mp hq with z | z
    · rw [z]
      exact h
    · exact e3 q z
theorem sets_rp {K : PySem.W.Frag} {G : Hp} : ∀ {ps : List (Addr × List Int)}, (∀ p ∈ ps, SqT K G p.1 (p.2.map V.int)) → RpL K G (ps.map fun p => V.ref p.1) ((ps.map (·.2)).map dS)
  | [], _ => .nil
  | q :: ps, h => .cons (.tup (h q List.mem_cons_self) (RpL.ints _)) (sets_rp fun z hz => h z (List.mem_cons_of_mem _ hz))
/-- sorted(tuple of ints) -/
theorem l_sortTI (hm : X.mg "sorted" = none) (h : Ev X H0 ρ e (dS ns)) (hg : Gl X "sorted" := by rfl) (he : starEach [e] X.env = (false, eval e X.env) :: starEach [] X.env := by rfl) (hpl : (backTo pos (starEach [] X.env)).any (·.1) = false := by rfl) :
    EvL X H0 ρ (.Call (.Name "sorted" p) [e] [] pos) ((isort ltI ns).map D.int) :=
  l_callB cr_sortTI hm (a_cons h a_nil he) (fun xs G H _ s r Q q => by
    cases r with
    | cons r1 r2 =>
      cases r2
      obtain ⟨a, xs, rfl, hs, r⟩ := r1.tup_of
      obtain rfl := r.ints_of
      exact ⟨a, ns, rfl, Same.sqT s hs, fun p hp => q p _ _ _ (Fr.newH s hp) hp (s.free hp) upd_same (RpL.ints _)⟩) (by decide +kernel) hg (by decide) (by decide) he hpl
/-- sorted(list of ints) -/
theorem l_sortI (hm : X.mg "sorted" = none) (h : Ev X H0 ρ e (.lst (ns.map D.int))) (hg : Gl X "sorted" := by rfl) (he : starEach [e] X.env = (false, eval e X.env) :: starEach [] X.env := by rfl) (hpl : (backTo pos (starEach [] X.env)).any (·.1) = false := by rfl) :
    EvL X H0 ρ (.Call (.Name "sorted" p) [e] [] pos) ((isort ltI ns).map D.int) :=
  l_callB cr_sortedI hm (a_cons h a_nil he) (fun xs G H _ s r Q q => by
    cases r with
    | cons r1 r2 =>
      cases r2
      obtain ⟨a, xs, rfl, hs, r⟩ := r1.lst_of
      obtain rfl := r.ints_of
      refine ⟨a, ns, rfl, SqL.of (s _ _ hs), fun ns' p k1 k2 hp => ?_⟩
      rw [sorted_eq stoI k1 (k2.imp fun {x y} z => decide_eq_false (by omega))]
      exact q p _ _ _ (Fr.newH s hp) hp (s.free hp) upd_same (RpL.ints _)) (by decide +kernel) hg (by decide) (by decide) he hpl
/-- sorted(list of sets) -/
theorem l_sortLT (hu : X.A.units + 64 < cLine) (hm : X.mg "sorted" = none) (h : Ev X H0 ρ e (.lst (ks.map dS))) (hg : Gl X "sorted" := by rfl) (he : starEach [e] X.env = (false, eval e X.env) :: starEach [] X.env := by rfl) (hpl : (backTo pos (starEach [] X.env)).any (·.1) = false := by rfl) :
    EvL X H0 ρ (.Call (.Name "sorted" p) [e] [] pos) ((isort HT.lexLt ks).map dS) :=
  l_callB (cr_sortLT hu) hm (a_cons h a_nil he) (fun xs G H _ s r Q q => by
    cases r with
    | cons r1 r2 =>
      cases r2
      obtain ⟨a, xs, rfl, hs, r⟩ := r1.lst_of
      obtain ⟨ps, e1, e2, e3⟩ := rp_sets r
      subst e1
      refine ⟨a, ps, rfl, SqL.of (s _ _ hs), fun z hz => Same.sqT s (e3 z hz), fun ks' p k1 k2 hp => ?_⟩
      refine q p _ _ _ (Fr.newH s hp) hp (s.free hp) upd_same ?_
      rw [← e2, ← k2]
      exact sets_rp fun z hz => e3 z (k1 z hz)) (by decide +kernel) hg (by decide) (by decide) he hpl
/-- sorted(set(tuple of ints)) -/
theorem l_sortSetTI (hm : X.mg "sorted" = none) (hm2 : X.mg "set" = none) (h : Ev X H0 ρ e (dS ns)) (hz : ns.length < 64) (hc : X.calm = true := by rfl) (hg : Gl X "sorted" := by rfl) (hg2 : Gl X "set" := by rfl) (he : starEach [e] X.env = (false, eval e X.env) :: starEach [] X.env := by rfl)
    (hpl : (backTo p2 (starEach [] X.env)).any (·.1) = false := by rfl) (he2 : starEach [.Call (.Name "set" p3) [e] [] p2] X.env = (false, eval (.Call (.Name "set" p3) [e] [] p2) X.env) :: starEach [] X.env := by rfl) (hpl2 : (backTo pos (starEach [] X.env)).any (·.1) = false := by rfl) :
    EvL X H0 ρ (.Call (.Name "sorted" p) [.Call (.Name "set" p3) [e] [] p2] [] pos) ((usort ltI ns).map D.int) := fun σ G H sg sh en Q q => by
  refine wE_of (pe_callB (cr_sortedSet hc) hg hm (by decide +kernel) (pa_cons (pe_callTy (cr_setTI hc) hg2 hm2 (by decide +kernel) (pa_cons pw pa_nil he) (by decide) (by decide) he hpl) pa_nil he2) (by decide) (by decide) he2 hpl2) ?_
  refine h σ G H sg sh en _ fun v G1 H1 f1 r1 => ?_
  obtain ⟨a, xs, rfl, hs, r⟩ := r1.tup_of
  obtain rfl := r.ints_of
  refine ⟨a, ns, rfl, Same.sqT f1.s hs, by omega, fun b c hcl hb => ?_⟩
  have f2 : Fr G1 H1 G1 (upd H1 b (SetO X.w b (fun j => decide (j ∈ ns)) c)) := Fr.newH f1.s hb
  refine ⟨b, _, c, rfl, upd_same, by omega, fun ms l k1 k2 k3 hl => ?_⟩
  have f3 := Fr.newH (o := .lst (ms.map V.int)) f2.s hl
  refine q l _ _ _ ((f1.trans f2).trans f3) ((f1.trans f2).h.free hl) (f2.s.free hl) upd_same ?_
  rw [usort_eq stoI (b := ns) (k1.imp fun {x y} z => decide_eq_true z) fun x => (k2 x).trans decide_eq_true_iff]
  exact RpL.ints _
/-- sorted(set(..)) of a tuple, of a list of sets -/
theorem l_sortSetTT (hu : X.A.units + 64 < cLine) (hm : X.mg "sorted" = none) (hm2 : X.mg "set" = none) (h : Ev X H0 ρ e (dF ks)) (hz : ks.length < 64) (hc : X.calm = true := by rfl) (hg : Gl X "sorted" := by rfl) (hg2 : Gl X "set" := by rfl) (he : starEach [e] X.env = (false, eval e X.env) :: starEach [] X.env := by rfl)
    (hpl : (backTo p2 (starEach [] X.env)).any (·.1) = false := by rfl) (he2 : starEach [.Call (.Name "set" p3) [e] [] p2] X.env = (false, eval (.Call (.Name "set" p3) [e] [] p2) X.env) :: starEach [] X.env := by rfl) (hpl2 : (backTo pos (starEach [] X.env)).any (·.1) = false := by rfl) :
    EvL X H0 ρ (.Call (.Name "sorted" p) [.Call (.Name "set" p3) [e] [] p2] [] pos) ((usort HT.lexLt ks).map dS) := fun σ G H sg sh en Q q => by
  refine wE_of (pe_callB (cr_sortST hc hu) hg hm (by decide +kernel) (pa_cons (pe_callTy (cr_setTT hc hu) hg2 hm2 (by decide +kernel) (pa_cons pw pa_nil he) (by decide) (by decide) he hpl) pa_nil he2) (by decide) (by decide) he2 hpl2) ?_
  refine h σ G H sg sh en _ fun v G1 H1 f1 r1 => ?_
  obtain ⟨a, xs, rfl, hs, r⟩ := r1.tup_of
  obtain ⟨ps, e1, e2, e3⟩ := rp_sets r
  subst e1
  have hl : ps.length = ks.length := by rw [← e2, List.length_map]
  refine ⟨a, ps, rfl, Same.sqT f1.s hs, fun z hz => Same.sqT f1.s (e3 z hz), by omega, fun b L hb hL1 hL2 => ?_⟩
  have f2 : Fr G1 H1 G1 (upd H1 b (SetTO X.prog X.w b L)) := Fr.newH f1.s hb
  refine ⟨b, L, rfl, upd_same, fun z hz => Same.sqT f2.s (e3 z (hL1 z hz)), fun L' l k1 k2 hl => ?_⟩
  have f3 := Fr.newH (o := .lst (L'.map fun p => V.ref p.1)) f2.s hl
  refine q l _ _ _ ((f1.trans f2).trans f3) ((f1.trans f2).h.free hl) (f2.s.free hl) upd_same ?_
  have e4 : usort HT.lexLt ks = L'.map (·.2) := by
    rw [k2]
    refine strict_eq stoL (usort_lt stoL _) (usort_lt stoL _) fun x => ?_
    rw [usort_mem stoL, usort_mem stoL, ← e2]
    exact ⟨fun hx => by obtain ⟨z, hz, e⟩ := List.mem_map.mp hx; exact e ▸ hL2 z hz, fun hx => by obtain ⟨z, hz, e⟩ := List.mem_map.mp hx; exact List.mem_map.mpr ⟨z, hL1 z hz, e⟩⟩
  rw [e4]
  exact sets_rp fun z hz => e3 z (hL1 z (k1 z hz))
theorem l_sortSetLT (hu : X.A.units + 64 < cLine) (hm : X.mg "sorted" = none) (hm2 : X.mg "set" = none) (h : Ev X H0 ρ e (.lst (ks.map dS))) (hz : ks.length < 64) (hc : X.calm = true := by rfl) (hg : Gl X "sorted" := by rfl) (hg2 : Gl X "set" := by rfl) (he : starEach [e] X.env = (false, eval e X.env) :: starEach [] X.env := by rfl)
    (hpl : (backTo p2 (starEach [] X.env)).any (·.1) = false := by rfl) (he2 : starEach [.Call (.Name "set" p3) [e] [] p2] X.env = (false, eval (.Call (.Name "set" p3) [e] [] p2) X.env) :: starEach [] X.env := by rfl) (hpl2 : (backTo pos (starEach [] X.env)).any (·.1) = false := by rfl) :
    EvL X H0 ρ (.Call (.Name "sorted" p) [.Call (.Name "set" p3) [e] [] p2] [] pos) ((usort HT.lexLt ks).map dS) := fun σ G H sg sh en Q q => by
  refine wE_of (pe_callB (cr_sortST hc hu) hg hm (by decide +kernel) (pa_cons (pe_callTy (cr_setOfT hc hu) hg2 hm2 (by decide +kernel) (pa_cons pw pa_nil he) (by decide) (by decide) he hpl) pa_nil he2) (by decide) (by decide) he2 hpl2) ?_
  refine h σ G H sg sh en _ fun v G1 H1 f1 r1 => ?_
  obtain ⟨a, xs, rfl, hs, r⟩ := r1.lst_of
  obtain ⟨ps, e1, e2, e3⟩ := rp_sets r
  subst e1
  have hl : ps.length = ks.length := by rw [← e2, List.length_map]
  refine ⟨a, ps, rfl, SqL.of (f1.s _ _ hs), fun z hz => Same.sqT f1.s (e3 z hz), by omega, fun b L hb hL1 hL2 => ?_⟩
  have f2 : Fr G1 H1 G1 (upd H1 b (SetTO X.prog X.w b L)) := Fr.newH f1.s hb
  refine ⟨b, L, rfl, upd_same, fun z hz => Same.sqT f2.s (e3 z (hL1 z hz)), fun L' l k1 k2 hl => ?_⟩
  have f3 := Fr.newH (o := .lst (L'.map fun p => V.ref p.1)) f2.s hl
  refine q l _ _ _ ((f1.trans f2).trans f3) ((f1.trans f2).h.free hl) (f2.s.free hl) upd_same ?_
  have e4 : usort HT.lexLt ks = L'.map (·.2) := by
    rw [k2]
    refine strict_eq stoL (usort_lt stoL _) (usort_lt stoL _) fun x => ?_
    rw [usort_mem stoL, usort_mem stoL, ← e2]
    exact ⟨fun hx => by obtain ⟨z, hz, e⟩ := List.mem_map.mp hx; exact e ▸ hL2 z hz, fun hx => by obtain ⟨z, hz, e⟩ := List.mem_map.mp hx; exact List.mem_map.mpr ⟨z, hL1 z hz, e⟩⟩
  rw [e4]
  exact sets_rp fun z hz => e3 z (hL1 z (k1 z hz))
end
end G9

/-! Layer W: short words. -/
namespace G9
open PySem PySem.Spec PyProof.Rows L2 G9S
/-- the built-in names are what they are -/
structure Blt (mg : Str → Option Value) : Prop where
  all_ : mg "all" = none
  any_ : mg "any" = none
  sorted_ : mg "sorted" = none
  set_ : mg "set" = none
  list_ : mg "list" = none
  tuple_ : mg "tuple" = none
  isinstance_ : mg "isinstance" = none
  int_ : mg "int" = none
  bool_ : mg "bool" = none
  str_ : mg "str" = none
  range_ : mg "range" = none
  len_ : mg "len" = none
  sum_ : mg "sum" = none
  min_ : mg "min" = none
  max_ : mg "max" = none
  enumerate_ : mg "enumerate" = none
  abs_ : mg "abs" = none
/-! ### == of sets, of rows of sets -/
theorem eqvL_ints : ∀ a b : List Int, PyData.eqvAll (D.pyL (a.map D.int)) (D.pyL (b.map D.int)) = decide (a = b)
  | [], [] => by simp [D.pyL, PyData.eqvAll]
  | [], b :: bs => by simp [D.pyL, PyData.eqvAll]
  | a :: as, [] => by simp [D.pyL, PyData.eqvAll]
  | a :: as, b :: bs => by
    have ih := eqvL_ints as bs
    simp only [List.map_cons, D.pyL, PyData.eqvAll, D.py, PyData.eqv, ih, List.cons.injEq, Bool.decide_and]
    rfl
theorem eqv_dS (a b : List Int) : (dS a).eqv (dS b) = decide (a = b) := by
  unfold D.eqv
  simp only [D.py, PyData.eqv, eqvL_ints]
theorem eqv_lS (a b : List Int) : (D.lst (a.map D.int)).eqv (D.lst (b.map D.int)) = decide (a = b) := by
  unfold D.eqv
  simp only [D.py, PyData.eqv, eqvL_ints]
theorem eqvL_sets : ∀ a b : List (List Int), PyData.eqvAll (D.pyL (a.map dS)) (D.pyL (b.map dS)) = decide (a = b)
  | [], [] => by simp [D.pyL, PyData.eqvAll]
  | [], b :: bs => by simp [D.pyL, PyData.eqvAll]
  | a :: as, [] => by simp [D.pyL, PyData.eqvAll]
  | a :: as, b :: bs => by
    have ih := eqvL_sets as bs
    have h1 : (dS a).py.eqv (dS b).py = decide (a = b) := eqv_dS a b
    simp only [List.map_cons, D.pyL, PyData.eqvAll, ih, h1, List.cons.injEq, Bool.decide_and]
theorem eqv_dF (a b : List (List Int)) : (dF a).eqv (dF b) = decide (a = b) := by
  unfold D.eqv
  simp only [D.py, PyData.eqv, eqvL_sets]
theorem eqv_lF (a b : List (List Int)) : (D.lst (a.map dS)).eqv (D.lst (b.map dS)) = decide (a = b) := by
  unfold D.eqv
  simp only [D.py, PyData.eqv, eqvL_sets]
/-- a family -/
abbrev dFam (n : Int) (f : List (List Int)) : D := .tup [.int n, dF f]
theorem eqv_fam (n m : Int) (a b : List (List Int)) : (dFam n a).eqv (dFam m b) = (decide (n = m) && decide (a = b)) := by
  have h1 : (dF a).py.eqv (dF b).py = decide (a = b) := eqv_dF a b
  unfold D.eqv
  rw [show (dFam n a).py = .tuple [.int n, (dF a).py] from rfl, show (dFam m b).py = .tuple [.int m, (dF b).py] from rfl]
  simp only [PyData.eqv, PyData.eqvAll, h1, Bool.and_true]
  rfl
theorem sh_dS {n : Nat} (a : List Int) : Sh (n + 1) (dS a) := .tup fun d hd => by
  obtain ⟨i, _, rfl⟩ := List.mem_map.mp hd
  exact .int i
theorem sh_lS {n : Nat} (a : List Int) : Sh (n + 1) (.lst (a.map D.int)) := .lst fun d hd => by
  obtain ⟨i, _, rfl⟩ := List.mem_map.mp hd
  exact .int i
theorem sh_dF {n : Nat} (a : List (List Int)) : Sh (n + 2) (dF a) := .tup fun d hd => by
  obtain ⟨i, _, rfl⟩ := List.mem_map.mp hd
  exact sh_dS i
theorem sh_lF {n : Nat} (a : List (List Int)) : Sh (n + 2) (.lst (a.map dS)) := .lst fun d hd => by
  obtain ⟨i, _, rfl⟩ := List.mem_map.mp hd
  exact sh_dS i
theorem sh_fam {n : Nat} (k : Int) (a : List (List Int)) : Sh (n + 3) (dFam k a) := .tup fun d hd => by
  rcases List.mem_cons.mp hd with rfl | hd
  · exact .int k
  · obtain rfl := List.mem_singleton.mp hd
    exact sh_dF a
theorem room65 {k : Nat} {A : Around} (r : Room k A) : A.units + 65 < cLine := by
  have := r.un
  omega
theorem any_sets (x : List Int) : ∀ ks : List (List Int), ((D.pyL (ks.map dS)).any fun z => PyData.eqv z (dS x).py) = ks.contains x
  | [] => rfl
  | k :: ks => by
    have h1 : (dS k).py.eqv (dS x).py = decide (k = x) := eqv_dS k x
    rw [List.map_cons, D.pyL, List.any_cons, any_sets x ks, List.contains_cons, h1]
    congr 1
    by_cases e : k = x
    · subst e
      simp
    · rw [decide_eq_false e]
      exact (beq_eq_false_iff_ne.mpr fun z => e z.symm).symm
theorem rd_ninD {K : PySem.W.Frag} {H0 : Hp} {x : List Int} {ks : List (List Int)} : Rd2 K H0 (rNotInD K) (dS x) (.lst (ks.map dS)) (.bl (!ks.contains x)) := fun v u G H _ s rx ry Q q => by
  refine ⟨(dS x).py, D.pyL (ks.map dS), (sh_dS (n := 0) x).dp (rx.up s), (sh_lF (n := 0) ks).dp (ry.up s), (sh_dS (n := 0) x).shaped, (sh_lF (n := 0) ks).shaped, ?_⟩
  rw [any_sets]
  exact q _ _ _ (Fr.refl s) (.bl _)
theorem rd_inD {K : PySem.W.Frag} {H0 : Hp} {x : List Int} {ks : List (List Int)} : Rd2 K H0 (rInD K) (dS x) (.lst (ks.map dS)) (.bl (ks.contains x)) := fun v u G H _ s rx ry Q q => by
  refine ⟨(dS x).py, D.pyL (ks.map dS), (sh_dS (n := 0) x).dp (rx.up s), (sh_lF (n := 0) ks).dp (ry.up s), (sh_dS (n := 0) x).shaped, (sh_lF (n := 0) ks).shaped, ?_⟩
  rw [any_sets]
  exact q _ _ _ (Fr.refl s) (.bl _)
section
variable {X : Cx} {H0 : Hp} {ρ : Ro} {e a b c : Expr} {es : List Expr} {d : D} {ds : List D} {t : String} {k : Bool} {n : Str} {p p2 pos : Pos} {α : Type}
/-- isinstance(e, T) -/
theorem e_isi (T : String) (B : Blt X.mg) (h : Ev X H0 ρ e d) (ht : d.tyS = some t) (hb : kitB t T = some k) (hm : X.mg n = none) (hv : bootBuiltins n = some (.type T) := by decide +kernel) (hg : Gl X "isinstance" := by rfl) (hg2 : Gl X n := by rfl) (hn : n ≠ "__name__" := by decide) (hdb : (n == ("__debug__" : Str)) = false := by decide)
    (he : starEach [e, .Name n p2] X.env = (false, eval e X.env) :: starEach [.Name n p2] X.env := by rfl) (he2 : starEach [.Name n p2] X.env = (false, eval (.Name n p2) X.env) :: starEach [] X.env := by rfl) (hpl : (backTo pos (starEach [.Name n p2] X.env)).any (·.1) = false := by rfl) :
    Ev X H0 ρ (.Call (.Name "isinstance" p) [e, .Name n p2] [] pos) (.bl k) :=
  e_callB call_isi B.isinstance_ (a_cons h (a_cons (e_ty hm hv hg2 hn hdb) a_nil he2) he) (rc_isi ht hb) (by decide +kernel) hg (by decide) (by decide) he hpl
/-- all(l), any(l), sum(l) of a new list; of a comprehension -/
theorem e_all {xs : List α} {g : α → Bool} (B : Blt X.mg) (h : EvL X H0 ρ e (xs.map fun x => D.bl (g x))) (hc : X.calm = true := by rfl) (hg : Gl X "all" := by rfl) (he : starEach [e] X.env = (false, eval e X.env) :: starEach [] X.env := by rfl) (hpl : (backTo pos (starEach [] X.env)).any (·.1) = false := by rfl) :
    Ev X H0 ρ (.Call (.Name "all" p) [e] [] pos) (.bl (xs.all g)) :=
  (e_callB (cr_all hc) B.all_ (a_cons (h.is (d' := (xs.map g).map D.bl) (by rw [List.map_map]; rfl)).ev a_nil he) rc_all (by decide +kernel) hg (by decide) (by decide) he hpl).is (by rw [List.all_map]; rfl)
theorem e_any {xs : List α} {g : α → Bool} (B : Blt X.mg) (h : EvL X H0 ρ e (xs.map fun x => D.bl (g x))) (hc : X.calm = true := by rfl) (hg : Gl X "any" := by rfl) (he : starEach [e] X.env = (false, eval e X.env) :: starEach [] X.env := by rfl) (hpl : (backTo pos (starEach [] X.env)).any (·.1) = false := by rfl) :
    Ev X H0 ρ (.Call (.Name "any" p) [e] [] pos) (.bl (xs.any g)) :=
  (e_callB (cr_any hc) B.any_ (a_cons (h.is (d' := (xs.map g).map D.bl) (by rw [List.map_map]; rfl)).ev a_nil he) rc_any (by decide +kernel) hg (by decide) (by decide) he hpl).is (by rw [List.any_map]; rfl)
theorem e_sum {xs : List α} {g : α → Int} (B : Blt X.mg) (h : EvL X H0 ρ e (xs.map fun x => D.int (g x))) (hc : X.calm = true := by rfl) (hg : Gl X "sum" := by rfl) (he : starEach [e] X.env = (false, eval e X.env) :: starEach [] X.env := by rfl) (hpl : (backTo pos (starEach [] X.env)).any (·.1) = false := by rfl) :
    Ev X H0 ρ (.Call (.Name "sum" p) [e] [] pos) (.int (xs.map g).sum) :=
  e_callB (cr_sum hc) B.sum_ (a_cons (h.is (d' := (xs.map g).map D.int) (by rw [List.map_map]; rfl)).ev a_nil he) rc_sum (by decide +kernel) hg (by decide) (by decide) he hpl
/-- tuple(l), list(t), list(l), len -/
theorem e_tuple (B : Blt X.mg) (h : Ev X H0 ρ e (.lst ds)) (hg : Gl X "tuple" := by rfl) (he : starEach [e] X.env = (false, eval e X.env) :: starEach [] X.env := by rfl) (hpl : (backTo pos (starEach [] X.env)).any (·.1) = false := by rfl) :
    Ev X H0 ρ (.Call (.Name "tuple" p) [e] [] pos) (.tup ds) := e_callT call_tuple_of B.tuple_ (a_cons h a_nil he) rc_tupL (by decide +kernel) hg (by decide) (by decide) he hpl
theorem l_listT (B : Blt X.mg) (h : Ev X H0 ρ e (.tup ds)) (hg : Gl X "list" := by rfl) (he : starEach [e] X.env = (false, eval e X.env) :: starEach [] X.env := by rfl) (hpl : (backTo pos (starEach [] X.env)).any (·.1) = false := by rfl) :
    EvL X H0 ρ (.Call (.Name "list" p) [e] [] pos) ds := l_callT call_list_of B.list_ (a_cons h a_nil he) rc_listT (by decide +kernel) hg (by decide) (by decide) he hpl
theorem e_lenT (B : Blt X.mg) (h : Ev X H0 ρ e (.tup ds)) (hg : Gl X "len" := by rfl) (he : starEach [e] X.env = (false, eval e X.env) :: starEach [] X.env := by rfl) (hpl : (backTo pos (starEach [] X.env)).any (·.1) = false := by rfl) :
    Ev X H0 ρ (.Call (.Name "len" p) [e] [] pos) (.int ds.length) := e_callB call_len_seq B.len_ (a_cons h a_nil he) rc_lenT (by decide +kernel) hg (by decide) (by decide) he hpl
theorem e_lenL (B : Blt X.mg) (h : Ev X H0 ρ e (.lst ds)) (hg : Gl X "len" := by rfl) (he : starEach [e] X.env = (false, eval e X.env) :: starEach [] X.env := by rfl) (hpl : (backTo pos (starEach [] X.env)).any (·.1) = false := by rfl) :
    Ev X H0 ρ (.Call (.Name "len" p) [e] [] pos) (.int ds.length) := e_callB call_len_seq B.len_ (a_cons h a_nil he) rc_lenL (by decide +kernel) hg (by decide) (by decide) he hpl
/-- items by a written place -/
theorem e_at {i : Int} {j pi} (h : Ev X H0 ρ e (.tup ds)) (hi : atI ds i = some d) : Ev X H0 ρ (.Subscript e (.Constant (.int i) j pi) pos) d := e_ix ix_tup h e_int (rd_ixT hi)
theorem e_atL {i : Int} {j pi} (h : Ev X H0 ρ e (.lst ds)) (hi : atI ds i = some d) : Ev X H0 ρ (.Subscript e (.Constant (.int i) j pi) pos) d := e_ix ix_list h e_int (rd_ixL hi)
/-- comparisons -/
theorem e_eqD {da db : D} {n m : Nat} (hu : X.A.units + 64 < cLine) (ha : Ev X H0 ρ a da) (hb : Ev X H0 ρ b db) (sa : Sh n da) (sb : Sh m db) (hn : n ≤ 64 := by decide) (hm : m ≤ 64 := by decide) : Ev X H0 ρ (.Compare a [.Eq] [b] pos) (.bl (da.eqv db)) := e_cmp (op_eqD hu) ha hb (rd_eqD sa sb hn hm)
theorem e_neD {da db : D} {n m : Nat} (hu : X.A.units + 64 < cLine) (ha : Ev X H0 ρ a da) (hb : Ev X H0 ρ b db) (sa : Sh n da) (sb : Sh m db) (hn : n ≤ 64 := by decide) (hm : m ≤ 64 := by decide) : Ev X H0 ρ (.Compare a [.NotEq] [b] pos) (.bl (!da.eqv db)) := e_cmp (op_neD hu) ha hb (rd_neD sa sb hn hm)
theorem t_eqD {da db : D} {n m : Nat} (hu : X.A.units + 64 < cLine) (ha : Ev X H0 ρ a da) (hb : Ev X H0 ρ b db) (sa : Sh n da) (sb : Sh m db) (hn : n ≤ 64 := by decide) (hm : m ≤ 64 := by decide) : EvT X H0 ρ (.Compare a [.Eq] [b] pos) (da.eqv db) := t_cmp (op_eqD hu) ha hb (rd_eqD sa sb hn hm)
theorem t_neD {da db : D} {n m : Nat} (hu : X.A.units + 64 < cLine) (ha : Ev X H0 ρ a da) (hb : Ev X H0 ρ b db) (sa : Sh n da) (sb : Sh m db) (hn : n ≤ 64 := by decide) (hm : m ≤ 64 := by decide) : EvT X H0 ρ (.Compare a [.NotEq] [b] pos) (!da.eqv db) := t_cmp (op_neD hu) ha hb (rd_neD sa sb hn hm)
/-- comprehensions without a test; that hand on what they walk -/
theorem c_map {elt iter : Expr} {scope : Scope} (enc : α → D) (xs : List α) (g : α → D) (j : Nat) (hsrc : EvI X H0 ρ iter (xs.map enc)) (hz : xs.length ≤ 100000)
    (he : ∀ x ∈ xs, ∀ (s : Shared) (H : Hp) (C : Addr) (cl : List (Str × Addr)) (fp : List Addr), Ev (X.blk s H scope (compEnvC scope cl C X.env) fp) H0 ((wipeD ρ [j]).set j (some (enc x))) elt (g x)) :
    EvC X H0 ρ elt iter [] scope j (xs.map g) := by
  have h := c_of (elt := elt) (ifs := []) (scope := scope) enc xs (fun _ => true) g j hsrc hz (fun _ _ _ _ _ _ _ => ts_nil) fun x hx _ => he x hx
  rw [List.filter_eq_self.mpr fun _ _ => rfl] at h
  exact h
theorem c_fil {t : Str} {pn : Pos} {iter cnd : Expr} {scope : Scope} (enc : α → D) (xs : List α) (f : α → Bool) (j : Nat) (hsrc : EvI X H0 ρ iter (xs.map enc)) (hz : xs.length ≤ 100000)
    (ht : ∀ x ∈ xs, ∀ (s : Shared) (H : Hp) (C : Addr) (cl : List (Str × Addr)) (fp : List Addr), EvT (X.blk s H scope (compEnvC scope cl C X.env) fp) H0 ((wipeD ρ [j]).set j (some (enc x))) cnd (f x))
    (hv : ∀ (s : Shared) (H : Hp) (C : Addr) (cl : List (Str × Addr)) (fp : List Addr), PE (X.blk s H scope (compEnvC scope cl C X.env) fp) (.Name t pn) (tVar j) := by exact fun _ _ _ _ _ => pv _) (hj : Nat.blt j ρ.length = true := by rfl) :
    EvC X H0 ρ (.Name t pn) iter [cnd] scope j ((xs.filter f).map enc) :=
  c_of enc xs f enc j hsrc hz (fun x hx s H C cl fp => ts_one (ht x hx s H C cl fp)) fun x hx _ s H C cl fp σ G H sg sh en Q q => by
    obtain ⟨v, h1, h2⟩ := en.at_ j (enc x) (by rw [List.getElem?_set_self (by show j < (ρ.set j none).length; rw [List.length_set]; exact Nat.le_of_ble_eq_true hj)])
    exact wE_of (hv s _ C cl fp) ⟨v, h1, q _ _ _ (Fr.refl sh) h2⟩
end
end G9

/-! Layer X: objects, slices of lists, an own ==, a lambda handed on. -/
namespace G9
open PySem PySem.Spec PyProof.Rows L2 G9S
/-! ### what of a heap the data lean on -/
def sqO : HO → Bool
  | .lst _ => true
  | .tup _ => true
  | .frz _ _ => true
  | _ => false
def Kp (G G' : Hp) : Prop := ∀ b o, G b = some o → sqO o = true → G' b = some o
theorem Kp.refl {G : Hp} : Kp G G := fun _ _ e _ => e
theorem Kp.trans {G G1 G2 : Hp} (a : Kp G G1) (b : Kp G1 G2) : Kp G G2 := fun x o e h => b x o (a x o e h) h
theorem Kp.of {G G' : Hp} (s : Same G G') : Kp G G' := fun b o e _ => s b o e
theorem Kp.sqT {K : PySem.W.Frag} {H H' : Hp} {a : Addr} {xs : List V} (e : Kp H H') (h : SqT K H a xs) : SqT K H' a xs := by
  rcases h with (h | ⟨o, h⟩) | h
  · exact .inl (.inl (e _ _ h rfl))
  · exact .inl (.inr ⟨o, e _ _ h rfl⟩)
  · exact .inr h
mutual
theorem Rp.kp' {K : PySem.W.Frag} {H H' : Hp} (e : Kp H H') : ∀ (d : D) (v : V), Rp K H v d → Rp K H' v d
  | .non, _, .non => .non
  | .bl b, _, .bl _ => .bl b
  | .int b, _, .int _ => .int b
  | .str b, _, .str _ => .str b
  | .ty b, _, .ty _ => .ty b
  | .ref b, _, .ref _ => .ref b
  | .tup ds, _, .tup h r => .tup (Kp.sqT e h) (RpL.kp' e ds _ r)
  | .lst ds, _, .lst h r => .lst (e _ _ h rfl) (RpL.kp' e ds _ r)
theorem RpL.kp' {K : PySem.W.Frag} {H H' : Hp} (e : Kp H H') : ∀ (ds : List D) (vs : List V), RpL K H vs ds → RpL K H' vs ds
  | [], _, .nil => .nil
  | d :: ds, _, .cons h r => .cons (Rp.kp' e d _ h) (RpL.kp' e ds _ r)
end
theorem Rp.kp {K : PySem.W.Frag} {H H' : Hp} {v : V} {d : D} (h : Rp K H v d) (e : Kp H H') : Rp K H' v d := Rp.kp' e d v h
theorem RpL.kp {K : PySem.W.Frag} {H H' : Hp} {v : List V} {d : List D} (h : RpL K H v d) (e : Kp H H') : RpL K H' v d := RpL.kp' e d v h
theorem En.kp {K : PySem.W.Frag} {H H' : Hp} {σ : L2.St} {ρ : Ro} (h : En K H σ ρ) (e : Kp H H') : En K H' σ ρ := ⟨h.len, fun i d q => by
  obtain ⟨v, a, b⟩ := h.at_ i d q
  exact ⟨v, a, b.kp e⟩⟩
/-- all but p -/
def hide (G : Hp) (p : Addr) : Hp := fun b => if b = p then none else G b
theorem hide_same {G : Hp} {p : Addr} : hide G p p = none := if_pos rfl
theorem hide_ne {G : Hp} {p b : Addr} (h : b ≠ p) : hide G p b = G b := if_neg h
theorem hide_sub {G : Hp} {p b : Addr} {o : HO} (h : hide G p b = some o) : b ≠ p ∧ G b = some o := by
  by_cases e : b = p
  · subst e
    rw [hide_same] at h
    cases h
  · rw [hide_ne e] at h
    exact ⟨e, h⟩
theorem same_hide {G H : Hp} {p : Addr} (s : Same G H) : Same (hide G p) H := fun b o e => s b o (hide_sub e).2
theorem Kp.hide {G : Hp} {p : Addr} {o : HO} (h : G p = some o) (hq : sqO o = false) : Kp G (hide G p) := fun b u e q => by
  have hb : b ≠ p := fun z => by
    subst z
    rw [h] at e
    cases e
    rw [hq] at q
    cases q
  rw [hide_ne hb]
  exact e
theorem Kp.put {G : Hp} {p : Addr} {o u : HO} (h : G p = some o) (hq : sqO o = false) : Kp G (upd G p u) := fun b w e q => by
  have hb : b ≠ p := fun z => by
    subst z
    rw [h] at e
    cases e
    rw [hq] at q
    cases q
  rw [upd_ne hb]
  exact e
/-- a thing of H is leant on for a while -/
theorem same_show {G H : Hp} {p : Addr} {o : HO} (s : Same G H) (hp : H p = some o) : Same (upd G p o) H := fun b u e => by
  by_cases hb : b = p
  · subst hb
    rw [upd_same] at e
    rw [hp]
    exact e
  · rw [upd_ne hb] at e
    exact s b u e
theorem Fr.hide {G H G' H' : Hp} {p : Addr} {o : HO} (f : Fr (upd G p o) H G' H') (gp : G p = none) : Fr G H (hide G' p) H' :=
  ⟨f.h, fun b u e => by
    have hb : b ≠ p := ne_of_none e gp
    rw [hide_ne hb]
    exact f.g b u (by rw [upd_ne hb]; exact e), same_hide f.s, fun b e1 e2 => by
    by_cases hb : b = p
    · rw [hb]
      exact hide_same
    · rw [hide_ne hb]
      exact f.n b (by rw [upd_ne hb]; exact e1) e2⟩
theorem Fr.show {G H G' H' : Hp} {p : Addr} {o : HO} (f : Fr (G9.hide G p) H G' H') (gp : G p = some o) (hp : H p = some o) : Fr G H (upd G' p o) H' := by
  have g1 : G' p = none := f.n p hide_same (by rw [hp]; exact fun z => nomatch z)
  refine ⟨f.h, fun b u e => ?_, same_show f.s (f.h _ _ hp), fun b e1 e2 => ?_⟩
  · by_cases hb : b = p
    · subst hb
      rw [gp] at e
      cases e
      exact upd_same
    · rw [upd_ne hb]
      exact f.g b u (by rw [hide_ne hb]; exact e)
  · have hb : b ≠ p := fun z => by
      rw [z, gp] at e1
      cases e1
    rw [upd_ne hb]
    exact f.n b (by rw [hide_ne hb]; exact e1) e2
/-- all but p stays -/
structure Fo (p : Addr) (G H G' H' : Hp) : Prop where
  h : ∀ b o, b ≠ p → H b = some o → H' b = some o
  g : Same G G'
  s : Same G' H'
  n : ∀ b, G b = none → H b ≠ none → G' b = none
  d : H' p ≠ none
theorem Fr.o {p : Addr} {G H G' H' : Hp} (f : Fr G H G' H') (hp : H p ≠ none) : Fo p G H G' H' := ⟨fun b o _ e => f.h b o e, f.g, f.s, f.n, fun z => by
  cases e : H p with
  | none => exact hp e
  | some o =>
    rw [f.h p o e] at z
    cases z⟩
theorem Fo.trans {p : Addr} {G H G1 H1 G2 H2 : Hp} (a : Fo p G H G1 H1) (b : Fo p G1 H1 G2 H2) : Fo p G H G2 H2 :=
  ⟨fun x o hx e => b.h x o hx (a.h x o hx e), a.g.trans b.g, b.s, fun x e1 e2 => b.n x (a.n x e1 e2) fun z => by
    by_cases hb : x = p
    · subst hb
      exact a.d z
    · cases e : H x with
      | none => exact e2 e
      | some o => exact absurd (a.h x o hb e) (by rw [z]; exact fun y => nomatch y), b.d⟩
theorem Fo.mut {p : Addr} {G H G' H' : Hp} {o : HO} (a : Fo p G H G' H') (gp : G' p = none) : Fo p G H G' (upd H' p o) :=
  ⟨fun b u hb e => by rw [upd_ne hb]; exact a.h b u hb e, a.g, Same.mut a.s gp, a.n, by rw [upd_same]; exact fun z => nomatch z⟩
theorem Fo.keep {p b : Addr} {o : HO} {G H G' H' : Hp} (f : Fo p G H G' H') (hb : b ≠ p) (gb : G b = none) (e : H b = some o) : G' b = none ∧ H' b = some o := ⟨f.n b gb (by rw [e]; exact fun z => nomatch z), f.h b o hb e⟩
theorem Lo.fo {K : PySem.W.Frag} {p l : Addr} {ds : List D} {G H G' H' : Hp} (h : Lo K G H l ds) (f : Fo p G H G' H') (hl : l ≠ p) : Lo K G' H' l ds := by
  obtain ⟨vs, h1, h2⟩ := h.ex
  obtain ⟨a, b⟩ := f.keep hl h.out h1
  exact ⟨a, vs, b, h2.up f.g⟩

/-! ### fields -/
section
variable {X : Cx} {H0 : Hp} {ρ : Ro} {o e : Expr} {d : D} {ds : List D} {pos p1 p2 p3 : Pos} {f : Str} {σ : L2.St} {G H : Hp} {rest : List Stmt} {N : Ends}
theorem e_fld {p C dx : Addr} {fs : List (Str × V)} {v : V} (h : Ev X H0 ρ o (.ref p)) (hp : H0 p = some (.ins C dx fs)) (c : Cls X.K C) (n : NoAttr X.K C f) (hl : fs.lookup f = some v) (r : Rp X.K H0 v d)
    (hb : attributeBase o f X.env (eval o X.env) = eval o X.env := by rfl) : Ev X H0 ρ (.Attribute o f pos) d := fun σ G H sg sh en Q q =>
  wE_of (pe_fld pw hb) (h σ G H sg sh en _ fun x G1 H1 f1 r1 => ⟨p, C, dx, fs, v, r1.ref_of, f1.s _ _ (f1.g _ _ (sg _ _ hp)), c, n, hl, q _ _ _ f1 (r.up (sg.trans f1.g))⟩)
/-- o.f = e, o an object that is leant on -/
theorem s_fld {p C dx : Addr} {fs : List (Str × V)} (h : Ev X H0 ρ e d) (ho : Ev X H0 ρ o (.ref p)) (sg : Same H0 G) (sh : Same G H) (en : En X.K G σ ρ) (hp : G p = some (.ins C dx fs)) (c : Cls X.K C) (n : NoAttr X.K C f) (hl : fs.length < 1000)
    (k : ∀ v G' H', Fr G H G' H' → Rp X.K G' v d → wB X rest N σ (upd H' p (.ins C dx (putF f v fs)))) (hs : swapsWith e (some (.Attribute o f p1)) pos.line X.env = pure false := by rfl) :
    wB X (.Assign [.Attribute o f p1] e pos :: rest) N σ H :=
  wB_cons (wS_of (ps_fld pw pw hs) (h σ G H sg sh en _ fun v G1 H1 f1 r1 => ho σ G1 H1 (sg.trans f1.g) f1.s (en.up f1.g) _ fun x G2 H2 f2 r2 =>
    ⟨p, C, dx, fs, r2.ref_of, f2.s _ _ (f2.g _ _ (f1.g _ _ hp)), c, n, hl, k v G2 H2 (f1.trans f2) (r1.up f2.g)⟩))
/-- l[:-1] -/
theorem cutV_init (xs : List V) : cutV xs none (some (-1)) = xs.dropLast := by
  have h1 : HT.sIx xs.length 0 none = 0 := rfl
  have h2 : HT.sIx xs.length xs.length (some (-1)) = xs.length - 1 := by
    show (if (-1 : Int) < 0 then ((-1 : Int) + (xs.length : Int)).toNat else min (-1 : Int).toNat xs.length) = _
    rw [if_pos (by decide)]
    omega
  unfold cutV
  rw [h1, h2, List.drop_zero, List.dropLast_eq_take]
  rfl
theorem RpL.dropLast {K : PySem.W.Frag} {H : Hp} : ∀ {vs : List V} {ds : List D}, RpL K H vs ds → RpL K H vs.dropLast ds.dropLast
  | _, _, .nil => .nil
  | _, _, .cons r .nil => .nil
  | _, _, .cons r (.cons r2 t) => .cons r (RpL.dropLast (.cons r2 t))
theorem l_init {j : Nat} (h : Ev X H0 ρ e (.lst ds)) : EvL X H0 ρ (.Subscript e (.Slice none (some (.UnaryOp .USub (.Constant (.int 1) j p1) p2)) none p3) pos) ds.dropLast := fun σ G H sg sh en Q q =>
  wE_of (pe_slice sl_list pw po_none (po_some (pe_un un_neg pe_int))) (h σ G H sg sh en _ fun x G1 H1 f1 r1 => by
    obtain ⟨a, xs, rfl, hs, r⟩ := r1.lst_of
    refine ⟨1, rfl, -1, rfl, a, xs, rfl, SqL.of (f1.s _ _ hs), fun p hp => ?_⟩
    rw [cutV_init]
    have f2 := Fr.newH (o := .lst xs.dropLast) f1.s hp
    exact q p _ G1 _ (f1.trans f2) (f1.h.free hp) (f1.s.free hp) upd_same r.dropLast)
theorem atI_last {α : Type} {ds : List α} {d : α} (hl : ds.getLast? = some d) : atI ds (-1) = some d := by
  have h0 : 0 < ds.length := List.length_pos_iff.mpr fun z => by rw [z] at hl; cases hl
  rw [List.getLast?_eq_getElem?] at hl
  unfold atI ixN
  rw [if_neg (by decide), if_pos (by omega)]
  show ds[((-1 : Int) + (ds.length : Int)).toNat]? = some d
  rw [show ((-1 : Int) + (ds.length : Int)).toNat = ds.length - 1 from by omega]
  exact hl
/-- e[-1] -/
theorem e_last {j : Nat} (h : Ev X H0 ρ e (.lst ds)) (hl : ds.getLast? = some d) : Ev X H0 ρ (.Subscript e (.UnaryOp .USub (.Constant (.int 1) j p1) p2) pos) d :=
  e_ix ix_list h (e_un un_neg e_int rd_neg) (rd_ixL (atI_last hl))
end

/-! ### == by the text's own __eq__ -/
def rOwn (C : Addr) (sp : Sp) : R2 := fun x y H Q => ∃ a b dx dy fs gs, x = .ref a ∧ y = .ref b ∧ H a = some (.ins C dx fs) ∧ H b = some (.ins C dy gs) ∧ sp [.ref a, .ref b] H (fun v H' => (∃ k, v = .bl k) ∧ Q v H') E0
section
variable {X : Cx}
theorem op_own {C f : Addr} {fd : FuncData} {ps : List Str} {sp : Sp} {k : Nat} (F : FnOk X.prog X.w X.K X.mg X.base CX0 k f fd ps sp) (hs : PySem.W.findIn X.K (.ref C) "__eq__" = some (some (.ref f))) (hf : PySem.W.isFn X.K (.ref f) = true) (hb : Binds X.K fd ps []) (hr : Room k X.A) : OpR X (compareOp .Eq) (rOwn C sp) := by
  intro pins s σ H x y v u Q I rx ry hq
  obtain ⟨a, b, dx, dy, fs, gs, rfl, rfl, ha, hb', hsp⟩ := hq
  cases rx
  cases ry
  show wpAny (model X.prog X.w) X.A (richCompare .Eq (.ref a) (.ref b)) (EP X pins σ Q) X.xe s
  obtain ⟨mA, J, _⟩ := ins_get I.hok ha
  obtain ⟨mB, J', _⟩ := ins_get I.hok hb'
  obtain ⟨od, J, _⟩ := J.look
  obtain ⟨od', J', _⟩ := J'.look
  obtain ⟨m, hF⟩ := I.fr
  refine PySem.W.cmp_K (op := .Eq) (tb := .ref C) hr.units0 hF I.ok.mod.kin J J'.type (by simp [PySem.W.notFirst]) hs hf ?_
  have hl := F.len _ _ _ _ hsp
  have r2 : Vals [V.ref a, V.ref b] [Value.ref a, Value.ref b] := .cons rfl (.cons rfl .nil)
  refine wpAny_call (codeAny_mono (F.run X.A X.stack s H ⟨[.ref a, .ref b], []⟩ [.ref a, .ref b] [.ref a, .ref b] _ E0 hr I.env0 (by
    have := hb s [.ref a, .ref b] I.kIn (by simpa using hl)
    simpa using this) r2 hsp) fun r s' hq => ?_)
  cases r with
  | error e => exact (show False from hq).elim
  | ok fl =>
    cases fl with
    | ret w =>
      obtain ⟨z, H', I', rz, ⟨kk, ez⟩, q⟩ := I.after hq
      subst ez
      cases rz
      exact ⟨.bl kk, H', I', rfl, q⟩
    | next => exact False.elim hq
    | brk => exact False.elim hq
    | cont => exact False.elim hq
end
/-! ### methods -/
structure FnM (P : Program) (w : World) (K : PySem.W.Frag) (mg : Str → Option Value) (base : Heap) (C : Addr) (m : Str) (k : Nat) (sp : Sp) : Prop where
  ex : ∃ (f : Addr) (fd : FuncData) (ps : List Str) (CX : CXT), FnOk P w K mg base CX k f fd ps sp ∧ Meth K C m f ∧ Binds K fd ps [] ∧ ∀ X : Cx, X.prog = P → X.w = w → Passes CX X E0
section
variable {X : Cx} {C : Addr} {m : Str} {k : Nat} {sp : Sp} {o e : Expr} {es : List Expr} {σ : L2.St} {H : Hp} {Q : VK} {apos pos : Pos} {pl : Sem Bool}
theorem w_meth0 (F : FnM X.prog X.w X.K X.mg X.base C m k sp) (c : Cls X.K C) (hr : Room k X.A) (h : wE X o σ H fun x H1 => ∃ a dx fs, x = .ref a ∧ H1 a = some (.ins C dx fs) ∧ fs.lookup m = none ∧ sp [x] H1 Q E0)
    (ht : eval (.Call (.Attribute o m apos) [] [] pos) X.env = (do
      let ov ← eval o X.env
      standAt apos.atName
      let (f, first) ← holding [ov] (getMethod ov m pl)
      callWith pos f first (backTo pos (starEach [] X.env)) (backToKw pos (keywordEach [] X.env))) := by rfl) : wE X (.Call (.Attribute o m apos) [] [] pos) σ H Q := by
  obtain ⟨f, fd, ps, CX, F1, hm, hb, hx⟩ := F.ex
  exact wE_of (pe_meth0 (pl := pl) pw c hm F1 hr hb .nil (hx X rfl rfl) ht) h
theorem w_meth1 (F : FnM X.prog X.w X.K X.mg X.base C m k sp) (c : Cls X.K C) (hr : Room k X.A) (h : wE X o σ H fun x H1 => ∃ a dx fs, x = .ref a ∧ H1 a = some (.ins C dx fs) ∧ fs.lookup m = none ∧ wE X e σ H1 fun y H2 => sp [x, y] H2 Q E0)
    (hst : starEach [e] X.env = (false, eval e X.env) :: starEach [] X.env := by rfl) (hpl : (backTo pos (starEach [] X.env)).any (·.1) = false := by rfl)
    (ht : eval (.Call (.Attribute o m apos) [e] [] pos) X.env = (do
      let ov ← eval o X.env
      standAt apos.atName
      let (f, first) ← holding [ov] (getMethod ov m pl)
      callWith pos f first (backTo pos (starEach [e] X.env)) (backToKw pos (keywordEach [] X.env))) := by rfl) : wE X (.Call (.Attribute o m apos) [e] [] pos) σ H Q := by
  obtain ⟨f, fd, ps, CX, F1, hm, hb, hx⟩ := F.ex
  exact wE_of (pe_meth (pl := pl) pw c hm F1 hr hb .nil (hx X rfl rfl) (pa_cons pw pa_nil hst) hst hpl ht) h
end
/-! ### told(lambda: ..), where nothing is raised -/
section
variable {X : Cx}
theorem told_calm {Ng : List Str} {x a e q n : Str} {sg : Scope} {g CS : Addr} {cdg : Value} {i : Nat} {sst : List Stmt} {s0 : Stmt} {p1 p2 p3 p4 p7 p8 : Pos} (hge : sg.names.lookup e = some .globalImplicit) (hme : X.mg e = some (.ref CS)) (hde : (e == ("__debug__" : Str)) = false) (h0 : ∀ f : Addr, (L2.start Ng [V.ref f])[0]? = some (some (V.ref f)))
    (hN : Ng.Nodup) (hi : Ng[i]? = some n) (hln : sg.names.lookup n = some .local) :
    LamX.GivesTo X Ng x sg g cdg [.Try [.Return (some (.Call (.Name a p1) [] [] p2)) p3] [.ExceptHandler (some (.Name e p4)) (some n) (s0 :: sst) p7] [] [] p8] a q (fun tl H Q => tl (fun _ _ _ => False) H Q) := by
  intro f c' s H Q tl act hc h
  have hgl : Gl (cxOf C8.CX0 X.prog X.w X.K X.mg X.base Ng x sg g cdg X.A X.stack s H C8.E0).nox e := hge
  refine ⟨_, pss_one (ps_try_as (X := (cxOf C8.CX0 X.prog X.w X.K X.mg X.base Ng x sg g cdg X.A X.stack s H C8.E0).nox) (c := .ref CS) (i := i)
      (tb := fun W D σ H => σ[0]? = some (some (.ref f)) ∧ H c' = some (LamX.CodeO c' q) ∧ tl (fun _ _ _ => False) H D.rt) (ts := fun _ _ _ _ _ _ => False)
      rfl rfl hN hi hln ⟨hgl, hde, .inl hme⟩ LamX.takes0 (fun W pn xe tk _ => ?_) (fun a oe cls d pn _ _ => ⟨fun _ _ _ _ _ _ h => h.elim⟩)), ?_⟩
  · refine ⟨fun pins s' σ H' D I h' => ?_⟩
    obtain ⟨h1, h2, h3⟩ := h'
    have hp := act W pn xe (fun _ _ _ => False) p1 p2 tk (fun _ _ _ _ z => z.elim)
    have hq := pss_one (ps_ret (pos := p3) hp)
    exact hq.run pins s' σ H' D I ⟨h1, h2, h3⟩
  · exact ⟨h0 f, hc, h⟩
end
end G9

/-! Layer H: where an exception is handled. -/
namespace G9
open PySem PySem.Spec PyProof.Rows L2 G9S L2H HotX
section
variable {prog : Program} {w : World} {A : Around} {E : Value → Shared → Prop} {s : Shared}
/-- the end of a list's iterator there -/
theorem next_list_end_hot {it l x1 : Addr} {i : Nat} {items : Array Value} {Q : Option Value → Shared → Prop} (hot : HotAt A x1 s.heap) (hne : x1 ≠ it)
    (hit : s.heap.IsListIter it l i) (hl : s.heap.IsList l items) (hx : items[i]? = none)
    (hQ : ∀ h', Heap.ExtBut it s.heap h' → Q none { s with heap := h' }) : wpAny (model prog w) A (pyNext (.ref it)) Q E s := by
  obtain ⟨o, ho, hc, hd⟩ := id hit
  obtain ⟨ol, hol, _, nl, hdl⟩ := hl
  obtain ⟨hh, o1, vs1, h1, d1, c1⟩ := hot
  unfold pyNext
  refine wpAny_bind (wpAny_attempt (wpAny_callSpecial?_slot (name := Str.ofString "__next__") hit.typeIs slot_listiter_next
    (wpAny_call_entry slot_listiter_next hit.typeIs entry_listiter_next ?_ (args_listiter_next _))))
  show wpAny _ _ (field (.ref it) 0 >>= _) _ _ s
  refine wpAny_bind (wpAny_field ho hd (x := .ref l) rfl ?_)
  show wpAny _ _ (if (Value.ref l == Value.none) = true then _ else _) _ _ s
  rw [if_neg (show ¬ ((Value.ref l == Value.none) = true) from Bool.false_ne_true)]
  show wpAny _ _ (field (.ref it) 1 >>= _) _ _ s
  refine wpAny_bind (wpAny_field ho hd (x := .int i 0) rfl ?_)
  show wpAny _ _ (seqItems? (.ref l) >>= _) _ _ s
  refine wpAny_bind (wpAny_seqItems hol hdl ?_)
  simp only [Int.toNat_natCast, hx]
  refine wpAny_bind (wpAny_rule (wpAny_bind (wpAny_setField ho hd (by simp) ?_)))
  show wpAny _ _ (newExc (.type "StopIteration") [] >>= _) _ _ _
  refine wpAny_bind ?_
  simp only [newExc, newTuple]
  refine wpAny_bind (wpAny_newObj_type ?_ (by size_fits))
  refine wpAny_bind (m := firstArgMember _ _) (wpAny_of_eq (a := Value.none) (by first | rfl | (simp only [firstArgMember]; rfl)) ?_)
  refine wpAny_newObj_type ?_ (by size_fits)
  have h1' := (Heap.get?_update_other s.heap (Obj.mapFields (·.setIfInBounds 0 Value.none)) (Ne.symm hne)).trans h1
  refine raiseNew_hot ⟨hh, o1, vs1, Heap.get?_push_of_some _ (Heap.get?_push_of_some _ h1'), d1, c1⟩ (Nat.ne_of_lt (Heap.lt_size (Heap.get?_push_of_some _ h1'))) (Heap.get?_push_size _ rfl) rfl (by first | (simp; done) | (simp; omega) | (simp only [Array.size_append]; simp; omega)) ?_
  refine wpAny_bind (wpAny_isInstance (T := "StopIteration") (b := true) ⟨_, Heap.get?_update_self _ (Heap.get?_push_size _ rfl) rfl, rfl⟩ isSubtype_stop ?_)
  refine wpAny_pure (hQ _ fun b o hb e => ?_)
  have e1 := (Heap.SameBut.update s.heap it (Obj.mapFields (·.setIfInBounds 0 Value.none))).extBut b o hb e
  rw [Heap.get?_update_other _ _ (Nat.ne_of_gt (Heap.lt_size (Heap.get?_push_of_some _ e1)))]
  exact Heap.get?_push_of_some _ (Heap.get?_push_of_some _ e1)
/-- a list walked there -/
theorem walks_list_hot {x1 : Addr} {o1 : Obj} {vs1 : Array Value} (hh : A.handled = some (.ref x1)) (d1 : o1.data = .fields vs1) (c1 : vs1[2]? = some .none) (I ax : Addr) (hne : ax ≠ I) (hn1 : x1 ≠ I) (items : Array Value) :
    Walks prog w A I [I, ax, x1] [I] items.size (fun i v => items[i]? = some v) (fun i h => h.IsListIter I ax i ∧ h.IsList ax items ∧ h.get? x1 = some o1) where
  sub := fun b hb => by simp at hb; simp [hb]
  frame := fun _ _ _ st hk => ⟨st.1.at fun o e => hk I (by simp) o e, st.2.1.at fun o e => hk ax (by simp) o e, hk x1 (by simp) _ st.2.2⟩
  item := fun i s Q E hi st hQ => by
    refine wpAny_pyNext_list_item st.1 st.2.1 (x := items[i]) (by simp [hi]) fun h' hit' hs' => ?_
    exact hQ _ h' s.toks (by simp [hi]) ⟨hit', st.2.1.extBut hs'.extBut hne, hs'.extBut x1 _ hn1 st.2.2⟩ fun b o hb e => hs'.extBut b o (fun h => hb (by simp [h])) e
  done := fun s Q E st hQ => next_list_end_hot ⟨hh, o1, vs1, st.2.2, d1, c1⟩ hn1 st.1 st.2.1 (by simp) fun h' he' => hQ h' s.toks fun b o hb e => he' b o (fun h => hb (by simp [h])) e
  self := fun _ _ _ _ st hQ => wpAny_pyIter_listiter st.1 hQ
/-- sum of a list of ints there -/
theorem sum_hot {l x1 : Addr} {o1 : Obj} {vs1 : Array Value} {its : List Value} {ns : List Int} {Q : Value → Shared → Prop} (hh : A.handled = some (.ref x1)) (h1 : s.heap.get? x1 = some o1) (d1 : o1.data = .fields vs1) (c1 : vs1[2]? = some .none) (hl : s.heap.IsList l its.toArray) (hi : IntsAre its ns)
    (h : ∀ h' tk t', (∀ b o, s.heap.get? b = some o → h'.get? b = some o) → Q (.int ns.sum t') { s with heap := h', toks := tk }) : wpAny (model prog w) A (call (.builtin "sum") [.ref l]) Q E s := by
  obtain ⟨xs, e⟩ := hi.allInts.items
  have hn : numsOf (intItems xs).toList = ns := by rw [← e]; exact hi.numsOf
  rw [nums_intItems] at hn
  rw [e] at hl
  refine call_sum_walkG (iter_intList hl fun s₂ e st hfp hlI => ?_)
  subst e
  have hlt := Heap.lt_size h1
  refine ⟨_, _, _, _, _, _, numAt xs, rfl, walks_list_hot (A := A.in1) hh d1 c1 _ l hlI (Nat.ne_of_lt hlt) (intItems xs), ⟨st.1, st.2, Heap.get?_push_of_some _ h1⟩, (fun b hb => ?_), (fun _ _ => intItems_at), fun h' tk t' hk => ?_⟩
  · rcases List.mem_cons.mp hb with rfl | hb
    · exact hfp _ (by simp)
    · rcases List.mem_cons.mp hb with rfl | hb
      · exact hfp _ (by simp)
      · rw [List.mem_singleton.mp hb, Heap.size_push]
        exact Nat.lt_succ_of_lt hlt
  · have := h h' tk t' (old_kept hk)
    rw [preSum_eq, List.take_of_length_le (by simp [intItems]), hn]
    exact this
end
end G9
namespace G9
open PySem PySem.Spec PyProof.Rows L2 G9S L2H HotX
/-! ### contexts in which p's exception is handled -/
structure HotI (X : Cx) (p : Addr × Obj) : Prop where
  hh : X.A.handled = some (.ref p.1)
  ctx : ∃ vs : Array Value, p.2.data = .fields vs ∧ vs[2]? = some .none
  at_ : ∀ {pins : List (Addr × Obj)} {σ : L2.St} {H : Hp} {s : Shared}, Inv X pins σ H s → s.heap.get? p.1 = some p.2 ∧ H p.1 = none ∧ p.1 ∉ X.fs ∧ p.1 ≠ X.env.locals
theorem hotI_fn {CX : CXT} {P : Program} {w : World} {K : PySem.W.Frag} {mg : Str → Option Value} {base : Heap} {N : List Str} {qual : Str} {scope : Scope} {f : Addr} {cd : Value} {A : Around} {outer : List Env} {s : Shared} {H : Hp} {E : XK} {p : Addr × Obj} (h : Hot1 A p) : HotI (cxH CX P w K mg base N qual scope f cd A outer s H E p) p :=
  ⟨h.1, h.2, fun I => let z := I.pin p (List.mem_append_left _ (List.mem_singleton.mpr rfl)); ⟨z.1, z.2.1, z.2.2.2.1, z.2.2.1⟩⟩
structure TurnI (p : Addr × Obj) (P : Program) (w : World) (K : PySem.W.Frag) (tg : Expr) (J : It) (fp : List Addr) (it : Addr) (tn : Nat → Heap → Prop) : Prop where
  mem : it ∈ fp
  obj : ∀ i h, tn i h → ∀ b ∈ fp, ∃ o, h.get? b = some o ∧ ∀ v, o.data ≠ .cell v
  keep : ∀ i h h', tn i h → (∀ b ∈ fp, ∀ o, h.get? b = some o → h'.get? b = some o) → tn i h'
  item : ∀ (X : Cx), X.prog = P → X.w = w → X.K = K → HotI X p → ∀ (i : Nat) (pins : List (Addr × Obj)) (s : Shared) (σ : L2.St) (H : Hp) (E : Value → Shared → Prop), Inv X pins σ H s → (∀ b ∈ fp, FpOk X pins H b) → tn i s.heap → J.go i H →
    wpAny (model P w) X.A (pyNext (.ref it)) (fun r s1 => ∃ u, r = some u ∧
      wpAny (model P w) X.A (letOwnedTupleGo tg (.ref it) u) (fun _ s2 => ∃ x H', Inv X pins σ H' s2 ∧ RelV x u ∧ J.yld i H x H' ∧ tn (i + 1) s2.heap ∧ ∀ b ∈ fp, H' b = none) E s1) E s
  done : ∀ (X : Cx), X.prog = P → X.w = w → X.K = K → HotI X p → ∀ (i : Nat) (pins : List (Addr × Obj)) (s : Shared) (σ : L2.St) (H : Hp) (E : Value → Shared → Prop), Inv X pins σ H s → (∀ b ∈ fp, FpOk X pins H b) → tn i s.heap → J.stop i H →
    wpAny (model P w) X.A (pyNext (.ref it)) (fun r s1 => r = none ∧ Inv X pins σ H s1) E s
  self : ∀ (A : Around) (i : Nat) (s : Shared) (Q : Value → Shared → Prop) (E : Value → Shared → Prop), tn i s.heap → Q (.ref it) s → wpAny (model P w) A (pyIter (.ref it)) Q E s
  far : p.1 ∉ fp
theorem turnI_list {p : Addr × Obj} {P : Program} {w : World} {K : PySem.W.Frag} {tg : Expr} (a it : Addr) (hn : p.1 ≠ it) : TurnI p P w K tg (Itl K a) [it] it (fun i h => h.IsListIter it a i) where
  mem := by simp
  obj := fun i h st b hb => by
    have e : b = it := by simpa using hb
    subst e
    obtain ⟨o, e, c, d⟩ := st
    exact ⟨o, e, fun v z => by rw [d] at z; cases z⟩
  keep := fun i h h' st k => st.at fun o e => k it (by simp) o e
  item := by
    intro X hP hw hK hc i pins s σ H E I hf st hg
    subst hP hw hK
    obtain ⟨xs, x, hq, hx⟩ := hg
    obtain ⟨its, rv, q, hz⟩ := I.list hq
    obtain ⟨u, hu, ru⟩ := rv.get hx
    obtain ⟨f0, f1, f2, f3, f4, f5⟩ := hf it (by simp)
    refine wpAny_pyNext_list_item st q.isList (x := u) (by simpa using hu) fun h' st' sb => ?_
    have I1 : Inv X pins σ H { s with heap := h' } := I.turned (t' := s.toks) (fun b o hb e => (sb.2 b hb).trans e) f0 f1 f3 f4 f5
    obtain ⟨o, e, c, d⟩ := id st'
    exact ⟨u, rfl, go_of (s := { s with heap := h' }) e c d (by decide) ⟨x, H, I1, ru, ⟨rfl, fun ys hy => by rw [I.list_inj hy hq]; exact hx⟩, st', fun b hb => (hf b hb).1⟩⟩
  done := by
    intro X hP hw hK hc i pins s σ H E I hf st hg
    subst hP hw hK
    obtain ⟨xs, hq, hx⟩ := hg
    obtain ⟨its, rv, q, hz⟩ := I.list hq
    obtain ⟨f0, f1, f2, f3, f4, f5⟩ := hf it (by simp)
    obtain ⟨vs, hv, hv2⟩ := hc.ctx
    have hl := rv.length
    exact next_list_end_hot ⟨hc.hh, p.2, vs, (hc.at_ I).1, hv, hv2⟩ hn st q.isList (by simp; omega) fun h' eb => ⟨rfl, I.turned (t' := s.toks) (fun b o hb e => eb b o hb e) f0 f1 f3 f4 f5⟩
  self := fun _ _ _ _ _ st h => wpAny_pyIter_listiter st h
  far := fun z => hn (by simpa using z)
def PIEI (p : Addr × Obj) (X : Cx) (pins : List (Addr × Obj)) (σ : L2.St) (tg : Expr) (R : It → Hp → Prop) (itv : Value) (s2 : Shared) : Prop :=
  ∃ (it : Addr) (fp : List Addr) (tn : Nat → Heap → Prop) (J : It) (H' : Hp), itv = .ref it ∧ Inv X pins σ H' s2 ∧ TurnI p X.prog X.w X.K tg J fp it tn ∧ tn 0 s2.heap ∧ (∀ b ∈ fp, FpOk X pins H' b) ∧ R J H'
structure PII (p : Addr × Obj) (X : Cx) (tg iter : Expr) (wi : TI) : Prop where
  run : ∀ (pins : List (Addr × Obj)) (s : Shared) (σ : L2.St) (H : Hp) (R : It → Hp → Prop), Inv X pins σ H s → wi σ H R →
    wpAny (model X.prog X.w) X.A (eval iter X.env) (fun v s1 => wpAny (model X.prog X.w) X.A (pyIter v) (PIEI p X pins σ tg R) X.xe s1) X.xe s
theorem pii_list {p : Addr × Obj} {X : Cx} {tg l : Expr} {tl : TE} (hot : HotI X p) (hl : PE X l tl) : PII p X tg l (iList X.K tl) := by
  refine ⟨fun pins s σ H R I h => ?_⟩
  refine thn (hl.run pins s σ H _ I h) fun v s1 ⟨x, H1, I1, r1, q1⟩ => ?_
  obtain ⟨a, e, ⟨xs, hq⟩, q⟩ := q1
  subst e
  cases r1
  obtain ⟨its, rv, p', hz⟩ := I1.list hq
  have hlt := Heap.lt_size (hot.at_ I1).1
  refine wpAny_pyIter_list p'.isList ?_
  refine ⟨s1.heap.objs.size, [s1.heap.objs.size], _, _, H1, rfl, I1.kept (t' := s1.toks) fun b o e => Heap.get?_push_of_some _ e, turnI_list a _ (Nat.ne_of_lt hlt), ⟨_, Heap.get?_push_size _ rfl, rfl, rfl⟩, fun b hb => ?_, q⟩
  have e : b = s1.heap.objs.size := by simpa using hb
  subst e
  exact I1.fpOk (Nat.le_refl _) (I1.hok.fresh (Nat.le_refl _))
theorem hotI_blk {X : Cx} {p : Addr × Obj} {pins : List (Addr × Obj)} {σ : L2.St} {H3 : Hp} {s3 : Shared} {scope : Scope} {ce : Env} {fp : List Addr} (h : HotI X p) (I : Inv X pins σ H3 s3) (hfp : p.1 ∉ fp) (cL : ce.locals = s3.heap.objs.size) : HotI (X.blk s3 H3 scope ce fp) p := by
  obtain ⟨h1, h2, h3, h4⟩ := h.at_ I
  have hfs : p.1 ∉ frs X.stack := fun z => (List.mem_cons.mp (I.stkSub _ z)).elim h4 h3
  refine ⟨h.hh, h.ctx, fun {pins' σ' H' s'} J => ⟨J.base.keep p.1 p.2 h1 h2 hfs hfp, J.base.free p.1 p.2 h1 h2 hfp, hfs, fun z => ?_⟩⟩
  have z : p.1 = ce.locals := z
  rw [cL] at z
  exact absurd (Heap.lt_size h1) (by rw [z]; exact Nat.lt_irrefl _)
section
variable {X : Cx} {p : Addr × Obj}
/-- [elt for target in iter if ..] there -/
theorem lc_hot {pins : List (Addr × Obj)} {s : Shared} {σ : L2.St} {H : Hp} {Q : VK} {elt tg iter : Expr} {ifs : List Expr} {scope : Scope} {own : List (Str × Nat)} {pos pos' : Pos} {wi : TI} {g : TG} {tt : TT} {te : TE} {use : Option (Value → Sem Unit)} {Qf : Value → Shared → Prop}
    (hot : HotI X p) (hN : X.N.Nodup) (I : Inv X pins σ H s) (hi : PII p X tg iter wi) (ok : BlkOk X.N X.env.scope scope own)
    (hg : ∀ (s : Shared) (H : Hp) (C : Addr) (cl : List (Str × Addr)) (fp : List Addr), PG (X.blk s H scope (compEnvC scope cl C X.env) fp) tg g) (ht : ∀ (s : Shared) (H : Hp) (C : Addr) (cl : List (Str × Addr)) (fp : List Addr), PTs (X.blk s H scope (compEnvC scope cl C X.env) fp) ifs tt)
    (he : ∀ (s : Shared) (H : Hp) (C : Addr) (cl : List (Str × Addr)) (fp : List Addr), PE (X.blk s H scope (compEnvC scope cl C X.env) fp) elt te) (hs : ∀ x, foldedSetIterable iter X.env x = pure x)
    (h : tLc wi g tt te (own.map (·.2)) σ H Q)
    (hRR : ∀ D C s' m H', Inv X pins σ H' s' → Q (.ref D) H' → s'.heap.Ns C m → FpOk X pins H' C → compPost (model X.prog X.w) X.A X.xe use Qf (.ref D) C (.ok .next) s') :
    wpAny (model X.prog X.w) X.A (comprehension (.ListComp elt [⟨tg, iter, ifs, 0⟩] scope pos) scope X.env pos' (newList []) false (eval iter X.env) use) Qf X.xe s := by
  have hfree : ∀ y ∈ scope.names, y.2 = .free → ∃ c, X.env.cells.lookup y.1 = some c := fun y hy e => by
    rcases ok.free y hy e with k | k
    · exact I.ok.has _ (.inl k)
    · exact I.ok.has _ (.inr k)
  refine wpAny_comprehension_free (use := use) rfl hs (closure_ok hfree) ok.kind (fun y hy e => by rw [ok.uniq y hy, e])
    (thn (hi.run pins s σ H _ I h) fun xv s1 hx => thn hx fun itv s2 h2 => ?_)
  obtain ⟨it, fp, tn, J, H2, e, I2, T, st2, f2, q⟩ := h2
  subst e
  refine wpAny_newObj_type (newEnv_comp ?_) (by show 0 ≤ sizeLine; decide)
  generalize hD : s2.heap.objs.size = D
  have hDn : H2 D = none := I2.hok.fresh (Nat.le_of_eq hD)
  obtain ⟨W, ⟨m0, w0⟩, turn⟩ := q D hDn
  generalize hs3 : ({ s2 with heap := s2.heap.push { cls := .type "list", data := .seq ([] : List Value).toArray } } : Shared) = s3
  have I3 : Inv X pins σ (upd H2 D (.lst [])) s3 := by
    rw [← hs3]
    refine I2.laid (t' := s2.toks) (fun b o e => Heap.get?_push_of_some _ e) (Nat.le_of_eq hD) ⟨Nat.zero_le _, [], 0, .nil, ?_⟩
    rw [← hD]
    exact Heap.get?_push_size _ rfl
  have h3 : s3.heap = s2.heap.push { cls := .type "list", data := .seq ([] : List Value).toArray } := by rw [← hs3]
  have sz : ∀ b ∈ fp, b < s2.heap.objs.size := fun b hb => by
    obtain ⟨o, e, _⟩ := T.obj _ _ st2 b hb
    exact Heap.lt_size e
  have f3 : ∀ b ∈ fp, FpOk X pins (upd H2 D (.lst [])) b ∧ b < s3.heap.objs.size := fun b hb => by
    have hlt := sz b hb
    refine ⟨⟨?_, (f2 b hb).2⟩, by rw [h3, Heap.size_push]; exact Nat.lt_succ_of_lt hlt⟩
    rw [upd_ne (by rw [← hD]; exact Nat.ne_of_lt hlt)]
    exact (f2 b hb).1
  have st3 : tn 0 s3.heap := T.keep _ _ _ st2 fun b _ o e => by rw [h3]; exact Heap.get?_push_of_some _ e
  have I4 := block_start I3 ok hN f3
  have pg := hg s3 (upd H2 D (.lst [])) s3.heap.objs.size (cellsFrom (s3.heap.objs.size + 1) scope.names (cloFrom X.env.cells scope.names [])) fp
  have pt := ht s3 (upd H2 D (.lst [])) s3.heap.objs.size (cellsFrom (s3.heap.objs.size + 1) scope.names (cloFrom X.env.cells scope.names [])) fp
  have pe := he s3 (upd H2 D (.lst [])) s3.heap.objs.size (cellsFrom (s3.heap.objs.size + 1) scope.names (cloFrom X.env.cells scope.names [])) fp
  show codeAny _ _ (.compStart (.ListComp elt [⟨tg, iter, ifs, 0⟩] scope pos) 0 (.ref it) (.ref D) (compEnvC scope (cellsFrom (s3.heap.objs.size + 1) scope.names (cloFrom X.env.cells scope.names [])) s3.heap.objs.size X.env)) (compPost (model X.prog X.w) X.A X.xe use Qf (.ref D) s3.heap.objs.size) { s3 with heap := pushCells (s3.heap.push { cls := .type "dict", data := .dict #[] }) scope.names }
  have nfp : ∀ b ∈ fp, (upd H2 D (.lst [])) b = none := fun b hb => (f3 b hb).1.1
  generalize hce : compEnvC scope (cellsFrom (s3.heap.objs.size + 1) scope.names (cloFrom X.env.cells scope.names [])) s3.heap.objs.size X.env = ce at I4 pg pt pe ⊢
  have cL : ce.locals = s3.heap.objs.size := by subst hce; rfl
  generalize hH3 : upd H2 D (.lst []) = H3 at I3 I4 pg pt pe w0 nfp f3
  have hb3 : HotI (X.blk s3 H3 scope ce fp) p := hotI_blk hot I3 T.far cL
  generalize hs4 : ({ s3 with heap := pushCells (s3.heap.push { cls := .type "dict", data := .dict #[] }) scope.names } : Shared) = s4 at I4 ⊢
  have st4 : tn 0 s4.heap := T.keep _ _ _ st3 fun b _ o e => by rw [← hs4]; exact pushCells_keeps _ _ _ _ (Heap.get?_push_of_some _ e)
  have stat : ∀ {σ' : L2.St} {H' : Hp} {s' : Shared}, Inv (X.blk s3 H3 scope ce fp) [] σ' H' s' → (∀ b ∈ fp, H' b = none) → ∀ b ∈ fp, FpOk (X.blk s3 H3 scope ce fp) [] H' b := fun {σ' H' s'} I' hn b hb =>
    ⟨hn b hb, (I'.ok.exf b hb).1, I'.ok.exfs b hb, .inl hb, fun x c e => (I'.ok.exf b hb).2 x c e, fun q hp => absurd (show q ∈ ([] : List (Addr × Obj)) ++ [] from hp) (by simp)⟩
  have loop : codeAny (model X.prog X.w) X.A (.compLoop (.ListComp elt [⟨tg, iter, ifs, 0⟩] scope pos) 0 (.ref it) (.ref D) ce) (compPost (model X.prog X.w) X.A X.xe use Qf (.ref D) s3.heap.objs.size) s4 := by
    refine compLoop_any (fun n s' => ∃ i H', Inv (X.blk s3 H3 scope ce fp) [] (wipe σ (own.map (·.2))) H' s' ∧ tn i s'.heap ∧ (∀ b ∈ fp, H' b = none) ∧ W i n H') ?_ m0 ⟨0, H3, I4, st4, nfp, w0⟩
    rintro n s5 ⟨i, H5, I5, st5, n5, w5⟩
    rcases turn i n H5 w5 with ⟨stop, qq⟩ | ⟨go, Nx, hNx, step⟩
    · have td := T.done (X.blk s3 H3 scope ce fp) rfl rfl rfl hb3 i [] s5 _ H5 (fun _ _ => False) I5 (stat I5 n5) st5 stop
      refine thnF td fun r s6 ⟨hr, I6⟩ => ?_
      subst hr
      have I7 : Inv X pins σ H5 s6 := I3.call' (ch := fp) I6.os I6.base I6.hok I6.bare fun b hb => ⟨(f3 b hb).1.2.2.2.1, (f3 b hb).1.2.1, (f3 b hb).1.2.2.2.2.1, (f3 b hb).1.2.2.2.2.2⟩
      have nC : H5 s3.heap.objs.size = none := by
        have z : H5 ce.locals = none := I6.free
        rw [cL] at z
        exact z
      obtain ⟨m, hn, _⟩ := I6.loc
      have hn : s6.heap.Ns ce.locals m := hn
      rw [cL] at hn
      exact hRR D s3.heap.objs.size s6 m H5 I7 qq hn (I3.fpOk (Nat.le_refl _) nC)
    · have ti := T.item (X.blk s3 H3 scope ce fp) rfl rfl rfl hb3 i [] s5 _ H5 (fun _ _ => False) I5 (stat I5 n5) st5 go
      refine thnF ti fun r s6 ⟨u, hr, h6⟩ => ?_
      subst hr
      refine thnF h6 fun _ s7 ⟨x, H7, I7, r7, y7, st7, n7⟩ => ?_
      have I7' := I7.pinned (stat I7 n7) (T.obj _ _ st7)
      refine thnF (pg.run _ s7 _ H7 x u _ I7' r7 (step x H7 y7)) fun _ s8 ⟨σ8, H8, I8, hw8, q8⟩ => ?_
      refine thnF (pt.run _ s8 σ8 H8 _ I8 q8) fun b s9 ⟨H9, I9, q9⟩ => ?_
      have fin : ∀ {s' : Shared} {H' : Hp}, Inv (X.blk s3 H3 scope ce fp) ([] ++ pinsAt fp s7.heap) σ8 H' s' → Nx H' → ∃ m, m < n ∧ ∃ i H', Inv (X.blk s3 H3 scope ce fp) [] (wipe σ (own.map (·.2))) H' s' ∧ tn i s'.heap ∧ (∀ b ∈ fp, H' b = none) ∧ W i m H' := fun {s' H'} I' nx => by
        obtain ⟨m', hm, w'⟩ := hNx H' nx
        have pin' : ∀ b ∈ fp, ∀ o, s7.heap.get? b = some o → s'.heap.get? b = some o ∧ H' b = none := fun b hb o e =>
          let z := I'.pin (b, o) (List.mem_append_right _ (List.mem_append_right _ (mem_pinsAt hb e)))
          ⟨z.1, z.2.1⟩
        have hl : (wipe σ (own.map (·.2))).length = σ8.length := by rw [← hw8, wipe_length]
        refine ⟨m', hm, i + 1, H', (I'.unpinned (pins := [])).weak hl (fun j v e => ?_), T.keep _ _ _ st7 fun b hb o e => (pin' b hb o e).1, fun b hb => ?_, w'⟩
        · rw [← hw8] at e
          exact (wipe_some e).1
        · obtain ⟨o, e, _⟩ := T.obj _ _ st7 b hb
          exact (pin' b hb o e).2
      cases b with
      | false =>
        simp only [Bool.false_eq_true, if_false] at q9 ⊢
        exact fin I9 q9
      | true =>
        simp only [if_true] at q9 ⊢
        refine thnF (pe.run _ s9 σ8 H9 _ I9 q9) fun z s10 ⟨yv, H10, I10, r10, acc, hD10, hz10, nx⟩ => ?_
        exact app_ok (X := X.blk s3 H3 scope ce fp) I10 hD10 hz10 r10 fun s11 I11 => fin I11 nx
  exact codeAny_compStart_list loop (T.self X.A 0 _ _ _ st4 loop)
theorem pe_lcI {elt tg iter : Expr} {ifs : List Expr} {scope : Scope} {own : List (Str × Nat)} {pos : Pos} {wi : TI} {g : TG} {tt : TT} {te : TE} (hot : HotI X p) (hN : X.N.Nodup) (hi : PII p X tg iter wi) (ok : BlkOk X.N X.env.scope scope own)
    (hg : ∀ (s : Shared) (H : Hp) (C : Addr) (cl : List (Str × Addr)) (fp : List Addr), PG (X.blk s H scope (compEnvC scope cl C X.env) fp) tg g) (ht : ∀ (s : Shared) (H : Hp) (C : Addr) (cl : List (Str × Addr)) (fp : List Addr), PTs (X.blk s H scope (compEnvC scope cl C X.env) fp) ifs tt)
    (he : ∀ (s : Shared) (H : Hp) (C : Addr) (cl : List (Str × Addr)) (fp : List Addr), PE (X.blk s H scope (compEnvC scope cl C X.env) fp) elt te) (hs : ∀ x, foldedSetIterable iter X.env x = pure x := by intro _; rfl) :
    PE X (.ListComp elt [⟨tg, iter, ifs, 0⟩] scope pos) (tLc wi g tt te (own.map (·.2))) := by
  refine ⟨fun pins s σ H Q I h => ?_⟩
  rw [eval_ListComp]
  refine lc_hot hot hN I hi ok hg ht he hs h fun D C s' m H' I' q hn f => ⟨m, hn, fun h'' sb => ?_⟩
  obtain ⟨f0, f1, f2, f3, f4, f5⟩ := f
  exact ⟨.ref D, H', I'.turned (t' := s'.toks) (fun b o hb e => (sb.2 b hb).trans e) f0 f1 f3 f4 f5, rfl, q⟩
theorem cr_sumI (hot : HotI X p) : CallR X (.builtin "sum") (rSum X.K) := by
  intro pins s σ H vs us Q I r h
  obtain ⟨a, ns, rfl, hs, q⟩ := h
  obtain ⟨its, rv, hl, _⟩ := I.list hs
  obtain ⟨vs1, d1, c1⟩ := hot.ctx
  rw [Vals.ref1 r]
  exact sum_hot hot.hh (hot.at_ I).1 d1 c1 hl.isList rv.ints fun h' tk t' hk => ⟨.int _, H, I.kept hk, ⟨_, rfl⟩, q⟩
end
/-! ### a def that is told of the handled exception -/
structure FnT (P : Program) (w : World) (K : PySem.W.Frag) (mg : Str → Option Value) (base : Heap) (k : Nat) (f : Addr) (fd : FuncData) (ps : List Str) (sp : Addr × Obj → Sp) : Prop where
  len : ∀ p vs H Q E, sp p vs H Q E → vs.length = ps.length
  run : ∀ (A : Around) (outer : List Env) (s : Shared) (H : Hp) (args : Args) (us : List Value) (vs : List V) (Q : VK) (E : XK) (p : Addr × Obj), RoomH k A → Hot1 A p → PinOk outer H s p → Env0 P w K mg base A outer s H → BindsTo s fd args (ps.zip us) → Vals vs us → sp p vs H Q E →
    codeAny (model P w) A (.call (.ref f) args) (CR CX0 outer P w H s Q E) s
theorem fn_ofT {P : Program} {w : World} {K : PySem.W.Frag} {mg : Str → Option Value} {base : Heap} {k : Nat} {f : Addr} {fd : FuncData} {x qual : Str} {st : Stmt} {N ps : List Str} {sp : Addr × Obj → Sp} (F : Fun K x qual st f fd) (S : FnScope N ps (defScope st))
    (len : ∀ p vs H Q E, sp p vs H Q E → vs.length = ps.length)
    (hbody : ∀ (cdv : Value) (A : Around) (outer : List Env) (s : Shared) (H : Hp) (vs : List V) (Q : VK) (E : XK) (p : Addr × Obj), Hot1 A p → RoomH k (A.deeper (envOfC qual (defScope st) s.heap.objs.size f cdv)) → sp p vs H Q E →
      wB (cxH CX0 P w K mg base N qual (defScope st) f cdv A outer s H E p) (defBody st) { nx := fun _ H' => Q .non H', rt := Q } (L2.start N vs) H) :
    FnT P w K mg base (k + 1) f fd ps sp := by
  obtain ⟨oc, od, kV, doc, pm, an, cdv, ct, osl, rfl, lk, hcd⟩ := F.ex
  refine ⟨len, fun A outer s H args us vs Q E p hr hot hpin e0 hb r hsp => ?_⟩
  have hl := len _ _ _ _ _ hsp
  have KX : K.In s.heap := e0.mod.kin.keeps fun b o e => (e0.bs b o e).1
  have lim : s.heap.NoLimit := e0.mod.nolimit.keeps fun b o e => (e0.bs b o e).1
  have hkind : ∀ y ∈ ps.zip us, (defScope st).names.lookup y.1 = some .local ∨ ((defScope st).names.lookup y.1 = some .cell ∧ ((cellsFrom (s.heap.objs.size + 1) (defScope st).names []).lookup y.1).isSome = true) := fun ⟨n, v⟩ hy => by
    rcases S.par n (List.of_mem_zip hy).1 with q | q
    · exact .inl q
    · exact .inr ⟨q, PySem.W.cellsFrom_some _ _ _ (.inl q)⟩
  refine codeAny_call_function hr.depth (KX _ _ lk) rfl S.co S.gen rfl (PySem.W.codeRec_of KX hcd) (hb _ _ _ _ ?_)
  refine wpAny_newFunctionEnv_cells S.kind hkind fun env he s1 x => ?_
  subst he
  refine ⟨lim.keeps x.toInCall.keep, codeAny_func ?_⟩
  have hq := hbody cdv A outer s H vs Q E p hot (hr.deeper _) hsp
  have I : Inv (cxH CX0 P w K mg base N qual (defScope st) f cdv A outer s H E p) [] (L2.start N vs) H s1 := inv_startH S hpin e0 hl r x
  refine wpAny_mono (hq [] s1 I) (fun fl s' hs => ?_) fun e s' hs => hs
  have fin : ∀ {σ' : L2.St} {H' : Hp} {v : V} {u : Value}, Inv (cxH CX0 P w K mg base N qual (defScope st) f cdv A outer s H E p) [] σ' H' s' → RelV v u → Q v H' → CE outer P w H s Q u s' :=
    fun {σ' H' v u} J rv q => ⟨v, H', J.os, J.bare, J.base, J.hok, rv, q⟩
  cases fl with
  | ret u =>
    obtain ⟨v, σ', H', J, rv, q⟩ := hs
    exact fin J rv q
  | next =>
    obtain ⟨σ', H', J, q⟩ := hs
    exact fin (v := V.non) (u := Value.none) J rfl q
  | brk =>
    obtain ⟨_, _, _, q⟩ := hs
    exact False.elim q
  | cont =>
    obtain ⟨_, _, _, q⟩ := hs
    exact False.elim q
theorem pe_callT {X : Cx} {k : Nat} {f : Addr} {fd : FuncData} {ps : List Str} {sp : Addr × Obj → Sp} {x : Str} {q pos : Pos} {e : Expr} {es : List Expr} {t : TA} {p : Addr × Obj} (F : FnT X.prog X.w X.K X.mg X.base k f fd ps sp) (hr : RoomH k X.A) (hot : Hot1 X.A p) (hp : p ∈ X.pn) (hg : Gl X x) (hm : X.mg x = some (.ref f)) (hk : PySem.W.keepIn X.K (.ref f) = true) (hb : Binds X.K fd ps [])
    (ha : PA X (e :: es) t) (hdb : (x == ("__debug__" : Str)) = false := by decide) (he : starEach (e :: es) X.env = (false, eval e X.env) :: starEach es X.env := by rfl) (hpl : (backTo pos (starEach es X.env)).any (·.1) = false := by rfl) :
    PE X (.Call (.Name x q) (e :: es) [] pos) (tCallS (sp p) (fun _ => E0) t) := by
  refine ⟨fun pins s σ H Q I h => ?_⟩
  refine wpAny_Call_Name_kw (ld_glob I hg hm ?_ hdb)
  refine PySem.W.callWith_K (h₀ := X.base) I.ok.mod.kin hk (thn (ha.run pos pins s σ H _ I h) fun us s1 ⟨vs, H1, I1, r, q⟩ => ⟨I1.kIn, ?_⟩) he hpl
  have hl : us.length = ps.length := by rw [← r.length]; exact F.len _ _ _ _ _ q
  have b := hb s1 us I1.kIn (by rw [List.append_nil]; exact hl)
  rw [List.append_nil] at b
  have P1 := I1.pin p (List.mem_append_left _ hp)
  have hpin : PinOk X.stack H1 s1 p := ⟨P1.1, P1.2.1, fun hm => (List.mem_cons.mp (I1.stkSub p.1 hm)).elim P1.2.2.1 P1.2.2.2.1, P1.2.2.2.2⟩
  refine wpAny_call (codeAny_mono (F.run X.A X.stack s1 H1 ⟨us, []⟩ us vs Q E0 p hr hot hpin I1.env0 b r q) fun r s' hq => ?_)
  cases r with
  | error e => exact (show False from hq).elim
  | ok fl =>
    cases fl with
    | ret u => exact I1.after hq
    | next => exact False.elim hq
    | brk => exact False.elim hq
    | cont => exact False.elim hq
/-- isinstance(e, c), e the handled exception -/
theorem call_isI {X : Cx} {p : Addr × Obj} {D : Addr} (hot : HotI X p) (C : ExcC X.K D) (hz : Zc (.ref D) none p.2) : CallR X (.builtin "isinstance") (rIsE X.K D p.1) := by
  intro pins s σ H xs us Q I r h
  obtain ⟨c, cv, b, rfl, hcv, e, q⟩ := h
  cases r with
  | cons rx rr =>
    cases rr with
    | cons rt rr =>
      cases rr
      cases rx
      have ec := hcv _ rt
      subst ec
      have hget := (hot.at_ I).1
      obtain ⟨vs, hv, _⟩ := hot.ctx
      have J : PySem.W.InstAt s.heap p.1 p.2 D none := by
        obtain ⟨a, oc, od, oda, osl⟩ := p
        obtain ⟨h1, h2⟩ := hz
        dsimp only at h1 h2 hv hget ⊢
        subst h1 h2 hv
        exact ⟨hget, rfl, rfl, trivial⟩
      exact PySem.W.kia_one (PySem.W.handS_kitx_exc C.hg C.hk C.hs C.hd C.ha C.hn C.ht C.hm) I.kIn J e (fun z => nomatch z) fun tk => ⟨.bl b, H, I.kept (t' := tk) fun _ _ z => z, rfl, q⟩
section
variable {X : Cx} {H0 : Hp} {ρ : Ro} {elt iter : Expr} {ifs : List Expr} {pos pn : Pos} {t : Str} {scope : Scope} {α : Type} {p : Addr × Obj}
/-- [elt for t in a list] there -/
theorem l_lcI (hot : HotI X p) (j : Nat) (enc : α → D) (xs : List α) (g : α → D) (hsrc : Ev X H0 ρ iter (.lst (xs.map enc))) (hz : xs.length ≤ 100000)
    (he : ∀ x ∈ xs, ∀ (s : Shared) (H : Hp) (C : Addr) (cl : List (Str × Addr)) (fp : List Addr), Ev (X.blk s H scope (compEnvC scope cl C X.env) fp) H0 ((wipeD ρ [j]).set j (some (enc x))) elt (g x)) (hN : X.N.Nodup := by assumption)
    (hg : ∀ (s : Shared) (H : Hp) (C : Addr) (cl : List (Str × Addr)) (fp : List Addr), PG (X.blk s H scope (compEnvC scope cl C X.env) fp) (.Name t pn) (gName j) := by first | exact fun _ _ _ _ _ => pg_name (by assumption) rfl (Or.inl rfl) | exact fun _ _ _ _ _ => pg_name (by assumption) rfl (Or.inr rfl))
    (ok : BlkOk X.N X.env.scope scope [(t, j)] := by exact blkOk_by (by first | kernel_rfl | rfl)) (hs : ∀ x, foldedSetIterable iter X.env x = pure x := by intro _; rfl) :
    EvL X H0 ρ (.ListComp elt [⟨.Name t pn, iter, [], 0⟩] scope pos) (xs.map g) := by
  have hw := c_core (elt := elt) (ifs := []) (scope := scope) enc xs (fun _ => true) g j (src_lst hsrc) hz (fun _ _ _ _ _ _ _ => ts_nil) fun x hx _ => he x hx
  rw [List.filter_eq_self.mpr fun _ _ => rfl] at hw
  intro σ G H sg sh en Q q
  exact wE_of (pe_lcI (tt := bT X scope []) (te := bE X scope elt) (own := [(t, j)]) hot hN (pii_list hot pw) ok hg (fun s H C cl fp => ⟨fun pins s1 σ1 H1 Q1 I h => h s H C cl fp pins s1 I⟩) (fun s H C cl fp => ⟨fun pins s1 σ1 H1 Q1 I h => h s H C cl fp pins s1 I⟩) hs) (hw σ G H sg sh en Q q)
end
end G9

/-! Layer L: a lambda handed on that may raise (exceptions without a context). -/
namespace G9
open PySem PySem.Spec PyProof.Rows L2 G9S L2H HotX
open LamX (Tabs ExtN CodeO TabB LamS lamEnv)
/-- the context of the lambda's body -/
abbrev lamCxN (X : Cx) (A : Around) (outer : List Env) (s : Shared) (H : Hp) (E : XK) (scope : Scope) (f c' : Addr) : Cx :=
  { LamX.lamCx X A outer s H E scope f c' with xe := fun e s' => wpAny (model X.prog X.w) (A.deeper (lamEnv X scope s.heap.objs.size f c')) (leaving (lamEnv X scope s.heap.objs.size f c') e) (fun _ s'' => L2N.CX X.prog X.w outer H s E e s'') (fun e' s'' => L2N.CX X.prog X.w outer H s E e' s'') s' }
theorem inv_xe {X : Cx} {pins : List (Addr × Obj)} {σ : L2.St} {H : Hp} {s : Shared} {xe : Value → Shared → Prop} (I : Inv X pins σ H s) : Inv { X with xe := xe } pins σ H s :=
  ⟨⟨I.ok.mod, I.ok.kind, I.ok.glob, I.ok.blt, I.ok.above, I.ok.inj, I.ok.has, I.ok.cab, I.ok.hd, I.ok.frames, I.ok.stk, I.ok.exf, I.ok.bs, I.ok.bsz, I.ok.noex, I.ok.exfs, I.ok.funs, I.ok.frf⟩, I.os, I.bare, I.base, I.loc, I.cell, I.free, I.freeC, I.pin, I.hok, I.len⟩
section
variable {X : Cx} {pins : List (Addr × Obj)} {σ : L2.St} {H HZ : Hp} {s s1 : Shared}
theorem pe_actN {CXg : CXT} {Eg : XK} {Ng : List Str} {qg : Str} {sg : Scope} {g f c' : Addr} {cdg pm ctv : Value} {params : Arguments} {body : Expr} {scope : Scope} {k i : Nat} {a : Str} {pn : List (Addr × Obj)} {xe : Value → Shared → Prop} {W : WX} {E : XK} {tb : TE} {p1 p2 : Pos}
    (I : Inv X pins σ H s) (L : LamS X.env.scope scope) (hf : s.heap.get? f = some (PySem.W.kla_obj "<lambda>" (X.env.qual ++ "<lambda>") params body scope (cloFrom X.env.cells scope.names []) pm c' ctv)) (hfn : H f = none) (hfr : f ∉ frs X.stack)
    (hbind : bindArgs (PySem.W.kla_fn "<lambda>" (X.env.qual ++ "<lambda>") params body scope (cloFrom X.env.cells scope.names []) pm (.ref c') ctv) ⟨[], []⟩ = pure [])
    (tk : L2N.Takes ((cxOf CXg X.prog X.w X.K X.mg X.base Ng qg sg g cdg X.A X.stack s H Eg).tr pn xe) W) (hW : ∀ cls d σ' H', E cls d H' → W cls d σ' H') (hr : Room (k + 1) (X.A.deeper (envOfC qg sg s.heap.objs.size g cdg)))
    (hbody : ∀ (A : Around) (outer : List Env) (s : Shared) (H : Hp), Room k (A.deeper (lamEnv X scope s.heap.objs.size f c')) → PE (lamCxN X A outer s H E scope f c') body tb)
    (hN : Ng[i]? = some a) (hv : Vis sg a) (hd : (a == ("__debug__" : Str)) = false := by decide) (hcd : (a == ("__classdict__" : Str)) = false := by decide) :
    PE ((cxOf CXg X.prog X.w X.K X.mg X.base Ng qg sg g cdg X.A X.stack s H Eg).tr pn xe) (.Call (.Name a p1) [] [] p2)
      (fun σZ HZ Q => σZ[i]? = some (some (.ref f)) ∧ HZ c' = some (CodeO c' (X.env.qual ++ "<lambda>")) ∧ tb σ HZ Q) := by
  refine ⟨fun pinsZ sZ σZ HZ Q IZ h => ?_⟩
  obtain ⟨hs, hc, ht⟩ := h
  refine wpAny_Call_Name_kw (thn ((pe_var (pos := p1) (i := i) hN hv hd hcd).run pinsZ sZ σZ HZ (fun v H1 => v = .ref f ∧ H1 = HZ) IZ ⟨.ref f, hs, rfl, rfl⟩) fun u s1 ⟨v, H1, I1, r1, q1⟩ => ?_)
  obtain ⟨ev, eH⟩ := q1
  subst ev
  rw [eH] at I1
  obtain rfl : u = Value.ref f := r1
  have of1 : s1.heap.get? f = some (PySem.W.kla_obj "<lambda>" (X.env.qual ++ "<lambda>") params body scope (cloFrom X.env.cells scope.names []) pm c' ctv) := I1.base.keep f _ hf hfn hfr (fun z => nomatch (show f ∈ ([] : List Addr) from z))
  refine PySem.W.callWith_F0 ⟨_, _, _, _, of1⟩ ?_
  have un : Un (frs X.stack) [] H HZ s.heap s1.heap := I1.base
  obtain ⟨⟨oc, vs, t, hoc, hdc, hvc⟩, _, _⟩ := I1.hok c' _ hc
  have rc : codeAny (model X.prog X.w) (X.A.deeper (envOfC qg sg s.heap.objs.size g cdg)) (.call (.ref f) ⟨[], []⟩) (CR (L2N.CX X.prog X.w) (envOfC qg sg s.heap.objs.size g cdg :: X.stack) X.prog X.w HZ s1 Q E) s1 := by
    refine PySem.W.kla_callFunE hr.depth of1 rfl L.co L.gen rfl ⟨c', oc, vs, t, rfl, hoc, hdc, hvc⟩ ?_
    rw [hbind]
    refine wpAny_pure (wpAny_newFunctionEnv (fun y hy => (L.own y hy).2) (fun y hy => absurd hy (by simp)) (fun h₁ hns hsb => ⟨I1.nolimit.fresh _ hsb, ?_⟩) L.kind)
    show codeAny _ _ (.expr body (lamEnv X scope s1.heap.objs.size f c')) _ _
    have kp : ∀ b o, s1.heap.get? b = some o → h₁.get? b = some o := fun b o e => hsb.extBut b o (Nat.ne_of_lt (Heap.lt_size e)) (Heap.get?_push_of_some _ e)
    have J0 : Inv (LamX.lamCx X (X.A.deeper (envOfC qg sg s.heap.objs.size g cdg)) (envOfC qg sg s.heap.objs.size g cdg :: X.stack) s1 HZ E scope f c') [] σ HZ { s1 with heap := h₁, toks := s1.toks + ([] : List (Str × Value)).length } :=
      LamX.lam_start2 I L I1.env0 hr.hd un hns kp
    have J : Inv (lamCxN X (X.A.deeper (envOfC qg sg s.heap.objs.size g cdg)) (envOfC qg sg s.heap.objs.size g cdg :: X.stack) s1 HZ E scope f c') [] σ HZ { s1 with heap := h₁, toks := s1.toks + ([] : List (Str × Value)).length } := inv_xe J0
    refine PySem.W.kla_codeExpr (wpAny_mono ((hbody _ _ s1 HZ (hr.deeper _)).run [] _ _ HZ Q J ht) (fun v s' hq => ?_) fun e s' hq => hq)
    obtain ⟨w', H', J', rv, q⟩ := hq
    exact ⟨w', H', J'.os, J'.bare, J'.base, J'.hok, rv, q⟩
  have hx : Passes (L2N.CX X.prog X.w) ((cxOf CXg X.prog X.w X.K X.mg X.base Ng qg sg g cdg X.A X.stack s H Eg).tr pn xe) E := L2N.passes_call tk hW
  refine wpAny_call (codeAny_mono rc fun r s' hq => ?_)
  cases r with
  | error e => exact hx pinsZ σZ HZ s1 e s' I1 hq
  | ok fl =>
    cases fl with
    | ret u => exact I1.after hq
    | next => exact False.elim hq
    | brk => exact False.elim hq
    | cont => exact False.elim hq
end
/-- the def that calls what it got -/
def GivesN (X : Cx) (k : Nat) (Ng : List Str) (x : Str) (sg : Scope) (g : Addr) (cdg : Value) (bg : List Stmt) (a : Str) (q : Str) (TT : (XK → Hp → VK → Prop) → Hp → VK → Prop) : Prop :=
  ∀ (f c' : Addr) (s : Shared) (H : Hp) (Q : VK) (tl : XK → Hp → VK → Prop), Room k (X.A.deeper (envOfC x sg s.heap.objs.size g cdg)) →
    (∀ (W : WX) (pn : List (Addr × Obj)) (xe : Value → Shared → Prop) (E : XK) (p1 p2 : Pos), L2N.Takes ((cxOf C8.CX0 X.prog X.w X.K X.mg X.base Ng x sg g cdg X.A X.stack s H C8.E0).tr pn xe) W → (∀ cls d σ' H', E cls d H' → W cls d σ' H') →
      PE ((cxOf C8.CX0 X.prog X.w X.K X.mg X.base Ng x sg g cdg X.A X.stack s H C8.E0).tr pn xe) (.Call (.Name a p1) [] [] p2) (fun σZ HZ Q => σZ[0]? = some (some (.ref f)) ∧ HZ c' = some (CodeO c' q) ∧ tl E HZ Q)) →
    H c' = some (CodeO c' q) → TT tl H Q →
    ∃ t, PSs (cxOf C8.CX0 X.prog X.w X.K X.mg X.base Ng x sg g cdg X.A X.stack s H C8.E0).nox bg t ∧ t { nx := fun _ H' => Q .non H', rt := Q } (L2.start Ng [.ref f]) H
theorem pe_lamcallN {X : Cx} {T : List (Addr × Str)} {TT : (XK → Hp → VK → Prop) → Hp → VK → Prop} {x a : Str} {g c P : Addr} {k : Nat} {pg : Arguments} {bg : List Stmt} {sg : Scope} {dV kV doc pm cdv ct oc : Value} {an od : Option Addr} {osl : Array (Option Value)} {Ng : List Str}
    {params : Arguments} {body : Expr} {scope : Scope} {t : XK → TE} {p lpos pos : Pos} (hg : Gl X x) (hm : X.mg x = some (.ref g)) (hk : PySem.W.keepIn X.K (.ref g) = true)
    (lk : X.K.lookup g = some ⟨oc, od, .func (PySem.W.fnOf x x pg bg sg dV kV doc pm an cdv ct), osl⟩) (hcg : PySem.W.codeIn X.K cdv x = true) (hb : L2.Binds X.K (PySem.W.fnOf x x pg bg sg dV kV doc pm an cdv ct) [a] []) (Sg : FnScope Ng [a] sg) (hNg : Ng[0]? = some a) (hva : Vis sg a)
    (hG : GivesN X (k + 1) Ng x sg g cdv bg a (X.env.qual ++ "<lambda>") TT)
    (TB : TabB X.base X.mg c P) (hcode : X.env.code = .ref c) (hmT : (P, X.env.qual ++ "<lambda>") ∈ T) (hu : ∀ p ∈ T, p.1 = P → p.2 = X.env.qual ++ "<lambda>") (hr : Room (k + 2) X.A) (L : LamS X.env.scope scope) (hdef : defaultsOf params X.env = ([], []))
    (hbind : ∀ (q : Str) (cl : List (Str × Addr)) (pm cv ctv : Value), bindArgs (PySem.W.kla_fn "<lambda>" q params body scope cl pm cv ctv) ⟨[], []⟩ = pure [])
    (hbody : ∀ (A : Around) (outer : List Env) (s : Shared) (H : Hp) (E : XK) (f c' : Addr), Room k (A.deeper (lamEnv X scope s.heap.objs.size f c')) → PE (lamCxN X A outer s H E scope f c') body (t E))
    (hdb : (x == ("__debug__" : Str)) = false := by decide) (hd : (a == ("__debug__" : Str)) = false := by decide) (hcd : (a == ("__classdict__" : Str)) = false := by decide) :
    PE X (.Call (.Name x p) [.Lambda params body scope lpos] [] pos) (LamX.tLam T TT t) := by
  refine ⟨fun pins s σ H Q I h => ?_⟩
  obtain ⟨hT, h⟩ := h
  refine wpAny_Call_Name_kw (ld_glob I hg hm ?_ hdb)
  refine PySem.W.callWith_K (h₀ := X.base) I.ok.mod.kin hk ?_ (by rfl) (by rfl)
  show wpAny _ _ (spliced ((false, eval (.Lambda params body scope lpos) X.env) :: backTo pos (starEach [] X.env))) _ _ s
  refine Calls.spliced_cons (LamX.lam_make2 I TB hcode hmT hu hT hdef (L.has I.ok) fun f c' pm' ctv H1 s' I1 eN T1 hf hfn hfr hco => ?_)
  refine Calls.spliced_nil ⟨I1.kIn, ?_⟩
  have rc : codeAny (model X.prog X.w) X.A (.call (.ref g) ⟨[.ref f], []⟩) (CR C8.CX0 X.stack X.prog X.w H1 s' Q C8.E0) s' := by
    refine LamX.run_ofS (N := Ng) (ps := [a]) (us := [.ref f]) (vs := [.ref f]) lk hcg Sg hr I1.env0 (hb s' [.ref f] I1.kIn rfl) (.cons rfl .nil) rfl fun hr' => ?_
    obtain ⟨t', ht', hq'⟩ := hG f c' s' H1 Q (fun E H' Q' => t E σ H' Q') hr' (fun W pn xe E p1 p2 tk hW => pe_actN (i := 0) I1 L hf hfn hfr (hbind _ _ _ _ _) tk hW hr' (fun A outer s H hr2 => hbody A outer s H E f c' hr2) hNg hva hd hcd) hco (h H1 eN T1)
    exact ⟨t', ht'.nox, hq'⟩
  refine wpAny_call (codeAny_mono rc fun r s2 hq => ?_)
  cases r with
  | error e => exact (show False from hq).elim
  | ok fl =>
    cases fl with
    | ret u => exact I1.after hq
    | next => exact False.elim hq
    | brk => exact False.elim hq
    | cont => exact False.elim hq
theorem takes0N {X : Cx} : L2N.Takes X (fun _ _ _ _ => False) := fun _ _ x => by
  obtain ⟨_, _, _, _, _, _, _, _, _, _, _, _, _, _, _, _, z⟩ := x
  exact z.elim
end G9

/-! Layer N: defs that may raise (exceptions without a context). -/
namespace G9
open PySem PySem.Spec PyProof.Rows L2 G9S L2H HotX
section
variable {P : Program} {w : World} {K : PySem.W.Frag} {mg : Str → Option Value} {base : Heap}
/-- a def that may raise, its body by the weakest reading -/
theorem okN {x qual : Str} {st : Stmt} {f : Addr} {fd : FuncData} {N ps : List Str} {k : Nat} {sp : Sp} (F : Fun K x qual st f fd) (S : FnScope N ps (defScope st)) (len : ∀ vs H Q E, sp vs H Q E → vs.length = ps.length)
    (hbody : ∀ (cdv : Value) (A : Around) (outer : List Env) (s : Shared) (H : Hp) (E : XK) (vs : List V) (Q : VK), Room k (A.deeper (envOfC qual (defScope st) s.heap.objs.size f cdv)) → sp vs H Q E →
      L2N.Takes (cxOf (L2N.CX P w) P w K mg base N qual (defScope st) f cdv A outer s H E) (fun cls d _ H => E cls d H) →
      wB (cxOf (L2N.CX P w) P w K mg base N qual (defScope st) f cdv A outer s H E) (defBody st) { nx := fun _ H' => Q .non H', rt := Q } (L2.start N vs) H) : FnOk P w K mg base (L2N.CX P w) (k + 1) f fd ps sp := by
  obtain ⟨oc, od, kV, doc, pm, an, cdv, ct, osl, rfl, lk, hcd⟩ := F.ex
  exact fn_of lk hcd S len fun A outer s H vs Q E hr hsp => ⟨_, pbw, hbody cdv A outer s H E vs Q hr hsp (L2N.takes_of rfl rfl rfl rfl)⟩
/-- an own class over ValueError, without __init__ -/
structure ExcT (K : PySem.W.Frag) (mg : Str → Option Value) (x : Str) (C : Addr) : Prop where
  m : mg x = some (.ref C)
  q : PySem.W.excIn K C [.type "ValueError", .type "Exception", .type "BaseException", .type "object"] "ValueError.__new__" = true
  k : PySem.W.keepIn K (.ref C) = true
  sb : PySem.W.subIn K (.ref C) (.type "BaseException") = some true
  ty : PySem.W.typeIn K (.ref C) = some (.type "type")
structure FnX (P : Program) (w : World) (K : PySem.W.Frag) (mg : Str → Option Value) (base : Heap) (x : Str) (k : Nat) (sp : Sp) : Prop where
  ex : ∃ (f : Addr) (fd : FuncData) (ps : List Str), FnOk P w K mg base (L2N.CX P w) k f fd ps sp ∧ mg x = some (.ref f) ∧ PySem.W.keepIn K (.ref f) = true ∧ Binds K fd ps []
structure FnMX (P : Program) (w : World) (K : PySem.W.Frag) (mg : Str → Option Value) (base : Heap) (C : Addr) (m : Str) (k : Nat) (sp : Sp) : Prop where
  ex : ∃ (f : Addr) (fd : FuncData) (ps : List Str), FnOk P w K mg base (L2N.CX P w) k f fd ps sp ∧ Meth K C m f ∧ Binds K fd ps []
end
section
variable {X : Cx} {C : Addr} {m x : Str} {k : Nat} {sp : Sp} {o e : Expr} {es : List Expr} {σ : L2.St} {H : Hp} {Q : VK} {E : XK} {p p1 p2 apos pos : Pos} {pl : Sem Bool} {rest : List Stmt} {N : Ends}
/-- raise x('..') -/
theorem s_raise {j : Nat} {t : Str} (T : ExcT X.K X.mg x C) (tk : L2N.Takes X (fun cls d _ H => E cls d H)) (h : E (.ref C) none H) (hc : X.calm = true := by rfl) (hg : Gl X x := by rfl) (hdb : (x == ("__debug__" : Str)) = false := by decide) :
    wB X (.Raise (some (.Call (.Name x p) [.Constant (.str t) j p2] [] p1)) none pos :: rest) N σ H :=
  wB_cons (wS_of (L2N.ps_raise hc tk (L2N.pmk_own PySem.F.excBase_ValueError T.q T.m T.k (raises_own T.sb T.ty) hg hdb)) h)
theorem w_callX (F : FnX X.prog X.w X.K X.mg X.base x k sp) (hr : Room k X.A) (tk : L2N.Takes X (fun cls d _ H => E cls d H)) (h : wA X (e :: es) σ H fun vs H1 => sp vs H1 Q E) (hg : Gl X x := by rfl) (hdb : (x == ("__debug__" : Str)) = false := by decide)
    (he : starEach (e :: es) X.env = (false, eval e X.env) :: starEach es X.env := by rfl) (hpl : (backTo pos (starEach es X.env)).any (·.1) = false := by rfl) : wE X (.Call (.Name x p) (e :: es) [] pos) σ H Q := by
  obtain ⟨f, fd, ps, F1, hm, hk, hb⟩ := F.ex
  refine wE_of (pe_call F1 hr hg hm hk hb .nil (L2N.passes_call tk fun _ _ _ _ h => h) paw hdb he hpl) ?_
  show wA X (e :: es) σ H fun vs H1 => sp (vs ++ []) H1 Q E
  simpa using h
theorem w_methX0 (F : FnMX X.prog X.w X.K X.mg X.base C m k sp) (c : Cls X.K C) (hr : Room k X.A) (tk : L2N.Takes X (fun cls d _ H => E cls d H)) (h : wE X o σ H fun x H1 => ∃ a dx fs, x = .ref a ∧ H1 a = some (.ins C dx fs) ∧ fs.lookup m = none ∧ sp [x] H1 Q E)
    (ht : eval (.Call (.Attribute o m apos) [] [] pos) X.env = (do
      let ov ← eval o X.env
      standAt apos.atName
      let (f, first) ← holding [ov] (getMethod ov m pl)
      callWith pos f first (backTo pos (starEach [] X.env)) (backToKw pos (keywordEach [] X.env))) := by rfl) : wE X (.Call (.Attribute o m apos) [] [] pos) σ H Q := by
  obtain ⟨f, fd, ps, F1, hm, hb⟩ := F.ex
  exact wE_of (pe_meth0 (pl := pl) pw c hm F1 hr hb .nil (L2N.passes_call tk fun _ _ _ _ h => h) ht) h
theorem w_methX1 (F : FnMX X.prog X.w X.K X.mg X.base C m k sp) (c : Cls X.K C) (hr : Room k X.A) (tk : L2N.Takes X (fun cls d _ H => E cls d H)) (h : wE X o σ H fun x H1 => ∃ a dx fs, x = .ref a ∧ H1 a = some (.ins C dx fs) ∧ fs.lookup m = none ∧ wE X e σ H1 fun y H2 => sp [x, y] H2 Q E)
    (hst : starEach [e] X.env = (false, eval e X.env) :: starEach [] X.env := by rfl) (hpl : (backTo pos (starEach [] X.env)).any (·.1) = false := by rfl)
    (ht : eval (.Call (.Attribute o m apos) [e] [] pos) X.env = (do
      let ov ← eval o X.env
      standAt apos.atName
      let (f, first) ← holding [ov] (getMethod ov m pl)
      callWith pos f first (backTo pos (starEach [e] X.env)) (backToKw pos (keywordEach [] X.env))) := by rfl) : wE X (.Call (.Attribute o m apos) [e] [] pos) σ H Q := by
  obtain ⟨f, fd, ps, F1, hm, hb⟩ := F.ex
  exact wE_of (pe_meth (pl := pl) pw c hm F1 hr hb .nil (L2N.passes_call tk fun _ _ _ _ h => h) (pa_cons pw pa_nil hst) hst hpl ht) h
theorem takes_lam {A : Around} {outer : List Env} {s : Shared} {Hx : Hp} {scope : Scope} {f c' : Addr} : L2N.Takes (lamCxN X A outer s Hx E scope f c') (fun cls d _ H => E cls d H) := L2N.takes_of rfl rfl rfl rfl
end
section
variable {X : Cx} {H0 : Hp} {ρ : Ro} {e : Expr} {es : List Expr} {d : D} {ds : List D} {σ : L2.St} {G H : Hp}
theorem useE {Q : VK} (en : En X.K G σ ρ) (sg : Same H0 G) (sh : Same G H) (h : Ev X H0 ρ e d) (q : ∀ v G' H', Fr G H G' H' → Rp X.K G' v d → Q v H') : wE X e σ H Q := h σ G H sg sh en Q q
theorem useA {Q : List V → Hp → Prop} (en : En X.K G σ ρ) (sg : Same H0 G) (sh : Same G H) (h : EvA X H0 ρ es ds) (q : ∀ v G' H', Fr G H G' H' → RpL X.K G' v ds → Q v H') : wA X es σ H Q := h σ G H sg sh en Q q
theorem useT {Q : Bool → Hp → Prop} {b : Bool} (en : En X.K G σ ρ) (sg : Same H0 G) (sh : Same G H) (h : EvT X H0 ρ e b) (q : ∀ G' H', Fr G H G' H' → Q b H') : wT X e σ H Q := h σ G H sg sh en Q q
theorem useL {Q : VK} (en : En X.K G σ ρ) (sg : Same H0 G) (sh : Same G H) (h : EvL X H0 ρ e ds) (q : ∀ l vs G' H', Fr G H G' H' → H l = none → G' l = none → H' l = some (.lst vs) → RpL X.K G' vs ds → Q (.ref l) H') : wE X e σ H Q := h σ G H sg sh en Q q
end
theorem wT_mono {X : Cx} {e : Expr} {σ : L2.St} {H : Hp} {Q Q' : Bool → Hp → Prop} (h : wT X e σ H Q) (m : ∀ k H', Q k H' → Q' k H') : wT X e σ H Q' := fun pins s I => wpAny_mono (h pins s I) (fun c s1 ⟨H1, I1, q1⟩ => ⟨H1, I1, m c H1 q1⟩) fun _ _ x => x
theorem s_ifW {X : Cx} {c : Expr} {σ : L2.St} {H : Hp} {sa sb rest : List Stmt} {N : Ends} {pos : Pos} (Pt Pf : Hp → Prop) (h : wT X c σ H fun k H' => (k = true → Pt H') ∧ (k = false → Pf H')) (kt : ∀ H', Pt H' → wB X sa { N with nx := wB X rest N } σ H') (kf : ∀ H', Pf H' → wB X sb { N with nx := wB X rest N } σ H') :
    wB X (.If c sa sb pos :: rest) N σ H :=
  wB_cons (wS_of (ps_if ptw pbw pbw) (wT_mono h fun k H' q => by
    cases k with
    | true => exact kt H' (q.1 rfl)
    | false => exact kf H' (q.2 rfl)))
end G9

namespace G9
open PySem PySem.Spec PyProof.Rows L2 G9S
def topS (i : Nat) : Stmt := PySem.Challenge.pw_pickcones_k09_whole_baskets.main.body.getD i (.Pass ⟨0, 0, 0, 0⟩)
abbrev s_is_whole : Stmt := topS 12
abbrev s_is_set : Stmt := topS 13
abbrev s_within : Stmt := topS 14
abbrev s_is_family : Stmt := topS 15
abbrev s_need_family : Stmt := topS 16
abbrev s_may_be : Stmt := topS 17
abbrev s_greatest_in : Stmt := topS 18
abbrev s_Basket_init : Stmt := inClass (topS 20) 0
abbrev s_Basket_picked : Stmt := inClass (topS 20) 1
abbrev s_Basket_free : Stmt := inClass (topS 20) 2
abbrev s_Basket_take : Stmt := inClass (topS 20) 3
abbrev s_Basket_leave : Stmt := inClass (topS 20) 4
abbrev s_Basket_undo : Stmt := inClass (topS 20) 5
abbrev s_Basket_redo : Stmt := inClass (topS 20) 6
abbrev s_Basket_len : Stmt := inClass (topS 20) 7
abbrev s_Basket_eq : Stmt := inClass (topS 20) 8
abbrev s_law_cell : Stmt := topS 22
abbrev s_law_drawn : Stmt := topS 23
abbrev s_law_roll : Stmt := topS 24
abbrev s_law_rounds : Stmt := topS 25
abbrev s_law_term : Stmt := topS 26
abbrev s_law_told : Stmt := topS 27
abbrev s_law_inside : Stmt := topS 28
abbrev s_law_top : Stmt := topS 29
abbrev s_law_family : Stmt := topS 30
abbrev s_law_may : Stmt := topS 31
abbrev s_law_free : Stmt := topS 32
abbrev s_law_end : Stmt := topS 33
abbrev s_law : Stmt := topS 34
end G9
namespace G9
open PySem PySem.Spec PyProof.Rows L2 G9S
def wholeD (d : D) (lo hi : Int) : Bool := match d with
  | .int i => decide (lo ≤ i) && decide (i ≤ hi)
  | _ => false
def R_is_whole (ds : List D) (d : D) : Prop := ∃ v lo hi, v.tyS ≠ none ∧ ds = [v, .int lo, .int hi] ∧ d = .bl (wholeD v lo hi)
section
variable {P : Program} {w : World} {K : PySem.W.Frag} {mg : Str → Option Value} {base : Heap}
/-! ### is_whole -/
theorem sc_is_whole : FnScope ["value", "low", "high"] ["value", "low", "high"] (defScope s_is_whole) := ⟨rfl, rfl, rfl, by decide +kernel, rfl, by decide +kernel, by decide +kernel⟩
theorem ok_is_whole {f : Addr} {fd : FuncData} (F : Fun K "is_whole" "is_whole" s_is_whole f fd) (B : Blt mg) : FnOk P w K mg base CX0 1 f fd ["value", "low", "high"] (spR K R_is_whole) := by
  refine okD F sc_is_whole (fun ds d h => by obtain ⟨v, lo, hi, _, rfl, _⟩ := h; rfl) fun cdv A outer s H G E σ ds d Q hr hR sh en q => ?_
  obtain ⟨v, lo, hi, hv, rfl, rfl⟩ := hR
  have hN := sc_is_whole.nd
  cases v with
  | int i => exact s_ret ((e_and (e_isi "int" (t := "int") (k := true) B (e_v 0) rfl (by decide +kernel) B.int_) fun _ => e_and (e_not (e_isi "bool" (t := "int") (k := false) B (e_v 0) rfl (by decide +kernel) B.bool_)) fun _ => e_one (e_chain (pe_chain op_le op_le pw pw pw) (e_v 1) (e_v 0) rd_b (fun _ => e_v 2) fun _ => rd_b)).is (by simp [wholeD])) same_nil sh en q
  | bl b => exact s_ret ((e_and (l := false) (e_isi "int" (t := "bool") (k := true) B (e_v 0) rfl (by decide +kernel) B.int_) fun _ => e_and (l := false) (e_not (e_isi "bool" (t := "bool") (k := true) B (e_v 0) rfl (by decide +kernel) B.bool_)) fun h => nomatch h).is (by simp [wholeD])) same_nil sh en q
  | non => exact s_ret ((e_and (l := false) (e_isi "int" (t := "NoneType") (k := false) B (e_v 0) rfl (by decide +kernel) B.int_) fun h => nomatch h).is (by simp [wholeD])) same_nil sh en q
  | str x => exact s_ret ((e_and (l := false) (e_isi "int" (t := "str") (k := false) B (e_v 0) rfl (by decide +kernel) B.int_) fun h => nomatch h).is (by simp [wholeD])) same_nil sh en q
  | tup x => exact s_ret ((e_and (l := false) (e_isi "int" (t := "tuple") (k := false) B (e_v 0) rfl (by decide +kernel) B.int_) fun h => nomatch h).is (by simp [wholeD])) same_nil sh en q
  | lst x => exact s_ret ((e_and (l := false) (e_isi "int" (t := "list") (k := false) B (e_v 0) rfl (by decide +kernel) B.int_) fun h => nomatch h).is (by simp [wholeD])) same_nil sh en q
  | ref a => exact absurd rfl hv
  | ty a => exact absurd rfl hv
/-! ### within -/
def subB (a b : List Int) : Bool := a.all fun x => b.contains x
def R_within (ds : List D) (d : D) : Prop := ∃ a b : List Int, a.length ≤ 1000 ∧ ds = [dS a, dS b] ∧ d = .bl (subB a b)
theorem sc_within : FnScope ["one", "other", "thing"] ["one", "other"] (defScope s_within) := ⟨rfl, rfl, rfl, by decide +kernel, rfl, by decide +kernel, by decide +kernel⟩
theorem ok_within {f : Addr} {fd : FuncData} (F : Fun K "within" "within" s_within f fd) (B : Blt mg) : FnOk P w K mg base CX0 1 f fd ["one", "other"] (spR K R_within) := by
  refine okD F sc_within (fun ds d h => by obtain ⟨a, b, _, rfl, _⟩ := h; rfl) fun cdv A outer s H G E σ ds d Q hr hR sh en q => ?_
  obtain ⟨a, b, ha, rfl, rfl⟩ := hR
  have hN := sc_within.nd
  exact s_ret (e_all B (l_lc 2 (c_map D.int a (fun x => D.bl (b.contains x)) 2 (i_tup (e_v 0)) (by omega) fun x hx _ _ _ _ _ => e_cmp op_in_seq (e_v 2) (e_v 1) rd_inT))) same_nil sh en q
/-! ### may_be -/
def mayB (f : List (List Int)) (s : List Int) : Bool := f.any fun o => subB s o
def R_may_be (ds : List D) (d : D) : Prop := ∃ (n : Int) (f : List (List Int)) (s : List Int), f.length ≤ 1000 ∧ s.length ≤ 1000 ∧ ds = [dFam n f, dS s] ∧ d = .bl (mayB f s)
theorem sc_may_be : FnScope ["family", "some", "one"] ["family", "some"] (defScope s_may_be) := ⟨rfl, rfl, rfl, by decide +kernel, rfl, by decide +kernel, by decide +kernel⟩
theorem ok_may_be {f : Addr} {fd : FuncData} (F : Fun K "may_be" "may_be" s_may_be f fd) (B : Blt mg) (F1 : Fn P w K mg base "within" 1 (spR K R_within)) : FnOk P w K mg base CX0 2 f fd ["family", "some"] (spR K R_may_be) := by
  refine okD F sc_may_be (fun ds d h => by obtain ⟨n, f, s, _, _, rfl, _⟩ := h; rfl) fun cdv A outer s H G E σ ds d Q hr hR sh en q => ?_
  obtain ⟨n, fs, ss, hf, hs, rfl, rfl⟩ := hR
  have hN := sc_may_be.nd
  exact s_ret (e_any B (l_lc 2 (c_map dS fs (fun o => D.bl (subB ss o)) 2 (i_tup (e_at (e_v 0) rfl)) (by omega) fun x hx _ _ _ _ _ => e_call F1 hr (a_cons (e_v 1) (a_cons (e_v 2) a_nil)) ⟨ss, x, hs, rfl, rfl⟩))) same_nil sh en q
/-! ### greatest_in -/
def topB (f : List (List Int)) (o : List Int) : Bool := !(f.any fun p => !decide (o = p) && subB o p)
def greatestIn (f : List (List Int)) : List (List Int) := usort HT.lexLt (f.filter (topB f))
def R_greatest_in (ds : List D) (d : D) : Prop := ∃ (src : D) (f : List (List Int)), (src = dF f ∨ src = .lst (f.map dS)) ∧ f.length < 64 ∧ (∀ o ∈ f, o.length ≤ 1000) ∧ ds = [src] ∧ d = dF (greatestIn f)
theorem sc_greatest_in : FnScope ["sets", "found", "one", "other"] ["sets"] (defScope s_greatest_in) := ⟨rfl, rfl, rfl, by decide +kernel, rfl, by decide +kernel, by decide +kernel⟩
theorem ok_greatest_in {f : Addr} {fd : FuncData} (F : Fun K "greatest_in" "greatest_in" s_greatest_in f fd) (B : Blt mg) (F1 : Fn P w K mg base "within" 1 (spR K R_within)) : FnOk P w K mg base CX0 2 f fd ["sets"] (spR K R_greatest_in) := by
  refine okD F sc_greatest_in (fun ds d h => by obtain ⟨_, _, _, _, _, rfl, _⟩ := h; rfl) fun cdv A outer s H G E σ ds d Q hr hR sh en q => ?_
  obtain ⟨src, fs, hsrc, hf, ho, rfl, rfl⟩ := hR
  have hN := sc_greatest_in.nd
  have it : ∀ {X : Cx} {H0 : Hp} {ρ : Ro} {e : Expr}, Ev X H0 ρ e src → EvI X H0 ρ e (fs.map dS) := fun h => by
    rcases hsrc with rfl | rfl
    · exact i_tup h
    · exact i_lst h
  refine s_asgV 1 2 (c_fil dS fs (topB fs) 2 (it (e_v 0)) (by omega) fun x hx _ _ _ _ _ => t_not (t_val (e_any B (l_lc 3 (c_map dS fs (fun p => D.bl (!decide (x = p) && subB x p)) 3 (it (e_v 0)) (by omega) fun y hy _ _ _ _ _ => ?_))))) same_nil sh en fun σ1 G1 H1 f1 en1 => ?_
  · exact (e_and (e_neD hr.units (e_v 2) (e_v 3) (sh_dS (n := 0) _) (sh_dS (n := 0) _)) fun _ => e_one (e_call F1 hr (a_cons (e_v 2) (a_cons (e_v 3) a_nil)) ⟨x, y, ho x hx, rfl, rfl⟩)).is (by rw [eqv_dS])
  · refine s_ret (e_tuple B (l_sortSetLT hr.units B.sorted_ B.set_ (e_v 1) ?_).ev) same_nil f1.s en1 fun v G2 H2 f2 r2 => q v G2 H2 (f1.trans f2) r2
    exact Nat.lt_of_le_of_lt (List.length_filter_le _ _) hf
/-! ### is_set -/
def intsD (ds : List D) : List Int := ds.map fun d => match d with
  | .int i => i
  | _ => 0
theorem intsD_map : ∀ ns : List Int, intsD (ns.map D.int) = ns
  | [] => rfl
  | n :: ns => by
    have ih := intsD_map ns
    unfold intsD at ih ⊢
    rw [List.map_cons, List.map_cons, ih]
def isSetD (d : D) (n : Int) : Bool := match d with
  | .tup ds => (ds.all fun x => wholeD x 0 (n - 1)) && decide (intsD ds = usort ltI (intsD ds))
  | _ => false
def R_is_set (ds : List D) (d : D) : Prop := ∃ (v : D) (n : Int) (m : Nat), Sm m v ∧ ds = [v, .int n] ∧ d = .bl (isSetD v n)
theorem sc_is_set : FnScope ["value", "things", "one"] ["value", "things"] (defScope s_is_set) := ⟨rfl, rfl, rfl, by decide +kernel, rfl, by decide +kernel, by decide +kernel⟩
theorem whole_int {d : D} {lo hi : Int} (h : wholeD d lo hi = true) : ∃ i, d = .int i ∧ lo ≤ i ∧ i ≤ hi := by
  cases d with
  | int i =>
    rw [wholeD, Bool.and_eq_true] at h
    exact ⟨i, rfl, of_decide_eq_true h.1, of_decide_eq_true h.2⟩
  | _ => cases h
theorem all_ints {ds : List D} {lo hi : Int} (h : (ds.all fun x => wholeD x lo hi) = true) : ds = (intsD ds).map D.int := by
  induction ds with
  | nil => rfl
  | cons d ds ih =>
    rw [List.all_cons, Bool.and_eq_true] at h
    obtain ⟨i, rfl, _⟩ := whole_int h.1
    have e := ih h.2
    unfold intsD at e ⊢
    rw [List.map_cons, List.map_cons, ← e]
theorem ok_is_set {f : Addr} {fd : FuncData} (F : Fun K "is_set" "is_set" s_is_set f fd) (B : Blt mg) (F1 : Fn P w K mg base "is_whole" 1 (spR K R_is_whole)) : FnOk P w K mg base CX0 2 f fd ["value", "things"] (spR K R_is_set) := by
  refine okD F sc_is_set (fun ds d h => by obtain ⟨v, n, _, _, rfl, _⟩ := h; rfl) fun cdv A outer s H G E σ ds d Q hr hR sh en q => ?_
  obtain ⟨v, n, m, hv, rfl, rfl⟩ := hR
  have hN := sc_is_set.nd
  cases v with
  | tup ds =>
    obtain ⟨m, rfl, hv2⟩ := hv.tup_inv
    refine s_when (b := !(ds.all fun x => wholeD x 0 (n - 1))) ((t_or2 (t_not (t_val (e_isi "tuple" (t := "tuple") (k := true) B (e_v 0) rfl (by decide +kernel) B.tuple_))) fun _ => t_not (t_val (e_all B (l_lc 2 (c_map id ds (fun x => D.bl (wholeD x 0 (n - 1))) 2 ((i_tup (e_v 0)).is (by simp)) (by have := hv2.1; omega)
      fun x hx _ _ _ _ _ => e_call F1 hr (a_cons (e_v 2) (a_cons e_int (a_cons (e_op op_sub (e_v 1) e_int rd_i) a_nil))) ⟨x, 0, n - 1, (hv2.2 x hx).ty, rfl, rfl⟩))))).is (by simp)) same_nil sh en (fun hb G1 H1 f1 en1 => ?_) fun hb G1 H1 f1 en1 => ?_
    · refine s_ret e_bl same_nil f1.s en1 fun v G2 H2 f2 r2 => q v G2 H2 (f1.trans f2) ?_
      have e : isSetD (.tup ds) n = false := by
        rw [Bool.not_eq_true'] at hb
        rw [isSetD, hb, Bool.false_and]
      rw [e]
      exact r2
    · have hb : (ds.all fun x => wholeD x 0 (n - 1)) = true := by simpa using hb
      have e1 := all_ints hb
      have hl : (intsD ds).length < 64 := by
        have := hv2.1
        unfold intsD
        rw [List.length_map]
        exact this
      have ev0 : ∀ {X : Cx} {H0 : Hp} {ρ : Ro} {e : Expr}, Ev X H0 ρ e (.tup ds) → Ev X H0 ρ e (dS (intsD ds)) := fun h => h.is (congrArg D.tup e1)
      refine s_ret ((e_eqD hr.units (l_listT B (ev0 (e_v 0))).ev (l_sortSetTI B.sorted_ B.set_ (ev0 (e_v 0)) hl).ev (sh_lS (n := 0) _) (sh_lS (n := 0) _)).is ?_) same_nil f1.s en1 fun v G2 H2 f2 r2 => q v G2 H2 (f1.trans f2) r2
      rw [eqv_lS, isSetD, hb, Bool.true_and]
  | int i => exact s_when (b := true) ((t_or2 (l := false) (t_not (t_val (e_isi "tuple" (t := "int") (k := false) B (e_v 0) rfl (by decide +kernel) B.tuple_))) fun h => nomatch h).is (by simp)) same_nil sh en (fun hb G1 H1 f1 en1 => s_ret e_bl same_nil f1.s en1 fun v G2 H2 f2 r2 => q v G2 H2 (f1.trans f2) r2) fun hb => nomatch hb
  | bl i => exact s_when (b := true) ((t_or2 (l := false) (t_not (t_val (e_isi "tuple" (t := "bool") (k := false) B (e_v 0) rfl (by decide +kernel) B.tuple_))) fun h => nomatch h).is (by simp)) same_nil sh en (fun hb G1 H1 f1 en1 => s_ret e_bl same_nil f1.s en1 fun v G2 H2 f2 r2 => q v G2 H2 (f1.trans f2) r2) fun hb => nomatch hb
  | str i => exact s_when (b := true) ((t_or2 (l := false) (t_not (t_val (e_isi "tuple" (t := "str") (k := false) B (e_v 0) rfl (by decide +kernel) B.tuple_))) fun h => nomatch h).is (by simp)) same_nil sh en (fun hb G1 H1 f1 en1 => s_ret e_bl same_nil f1.s en1 fun v G2 H2 f2 r2 => q v G2 H2 (f1.trans f2) r2) fun hb => nomatch hb
  | non => exact s_when (b := true) ((t_or2 (l := false) (t_not (t_val (e_isi "tuple" (t := "NoneType") (k := false) B (e_v 0) rfl (by decide +kernel) B.tuple_))) fun h => nomatch h).is (by simp)) same_nil sh en (fun hb G1 H1 f1 en1 => s_ret e_bl same_nil f1.s en1 fun v G2 H2 f2 r2 => q v G2 H2 (f1.trans f2) r2) fun hb => nomatch hb
  | lst i => exact s_when (b := true) ((t_or2 (l := false) (t_not (t_val (e_isi "tuple" (t := "list") (k := false) B (e_v 0) rfl (by decide +kernel) B.tuple_))) fun h => nomatch h).is (by simp)) same_nil sh en (fun hb G1 H1 f1 en1 => s_ret e_bl same_nil f1.s en1 fun v G2 H2 f2 r2 => q v G2 H2 (f1.trans f2) r2) fun hb => nomatch hb
  | ref a => exact absurd rfl hv.ty
  | ty a => exact absurd rfl hv.ty
/-! ### is_family -/
def setsD (ds : List D) : List (List Int) := ds.map fun d => match d with
  | .tup es => intsD es
  | _ => []
def isFam (n : Int) (f : List (List Int)) : Bool := decide (f = usort HT.lexLt f) && decide (greatestIn f = f) && ((List.range n.toNat).all fun (t : Nat) => f.any fun o => o.contains (t : Int))
def isFamD (d : D) : Bool := match d with
  | .tup [.int n, .tup ds] => (decide (2 ≤ n) && decide (n ≤ 5)) && (!ds.isEmpty && ds.all fun x => isSetD x n) && isFam n (setsD ds)
  | _ => false
def R_is_family (ds : List D) (d : D) : Prop := ∃ (v : D), ((∃ m, m ≤ 60 ∧ Sm m v) ∨ ∃ t, v.tyS = some t ∧ kitB t "tuple" = some false) ∧ ds = [v] ∧ d = .bl (isFamD v)
theorem sc_is_family : FnScope ["value", "things", "sets", "one", "thing"] ["value"] (defScope s_is_family) := ⟨rfl, rfl, rfl, by decide +kernel, rfl, by decide +kernel, by decide +kernel⟩
theorem set_of {d : D} {n : Int} (h : isSetD d n = true) : ∃ s, d = dS s ∧ s = usort ltI s ∧ ∀ x ∈ s, 0 ≤ x ∧ x ≤ n - 1 := by
  cases d with
  | tup ds =>
    rw [isSetD, Bool.and_eq_true] at h
    have e := all_ints h.1
    refine ⟨intsD ds, congrArg D.tup e, of_decide_eq_true h.2, fun x hx => ?_⟩
    have h1 := h.1
    rw [e, List.all_eq_true] at h1
    obtain ⟨i, e2, h2⟩ := whole_int (h1 _ (List.mem_map.mpr ⟨x, hx, rfl⟩))
    cases e2
    exact h2
  | _ => cases h
theorem all_sets {ds : List D} {n : Int} (h : (ds.all fun x => isSetD x n) = true) : ds = (setsD ds).map dS := by
  induction ds with
  | nil => rfl
  | cons d ds ih =>
    rw [List.all_cons, Bool.and_eq_true] at h
    obtain ⟨s, rfl, _⟩ := set_of h.1
    have e := ih h.2
    unfold setsD at e ⊢
    rw [List.map_cons, List.map_cons, ← e]
    show _ = dS (intsD (s.map D.int)) :: _
    rw [intsD_map]
theorem fam_len {ds : List D} (h : ¬ ds.length = 2) : isFamD (.tup ds) = false := by
  unfold isFamD
  split
  · rename_i e
    cases e
    exact absurd rfl h
  · rfl
theorem fam_not {d : D} {t : String} (h : d.tyS = some t) (h2 : kitB t "tuple" = some false) : isFamD d = false := by
  cases d with
  | tup ds =>
    cases h
    exact absurd h2 (by decide +kernel)
  | _ => rfl
theorem ok_is_family {f : Addr} {fd : FuncData} (F : Fun K "is_family" "is_family" s_is_family f fd) (B : Blt mg) (mM : ∃ t, mg "MOST_THINGS" = some (.int 5 t)) (F1 : Fn P w K mg base "is_whole" 1 (spR K R_is_whole)) (F2 : Fn P w K mg base "is_set" 2 (spR K R_is_set)) (F3 : Fn P w K mg base "greatest_in" 2 (spR K R_greatest_in)) :
    FnOk P w K mg base CX0 3 f fd ["value"] (spR K R_is_family) := by
  refine okD F sc_is_family (fun ds d h => by obtain ⟨_, _, rfl, _⟩ := h; rfl) fun cdv A outer s H G E σ ds d Q hr hR sh en q => ?_
  obtain ⟨v, hv, rfl, rfl⟩ := hR
  obtain ⟨tM, mM⟩ := mM
  have hN := sc_is_family.nd
  have no : ∀ {X : Cx} {ρ : Ro} {σ1 : L2.St} {G1 H1 : Hp} {N : Ends} {rest : List Stmt} {j} {pos pos2 : Pos}, isFamD v = false → X.K = K → Fr G H G1 H1 → En X.K G1 σ1 ρ → N.rt = Q → wB X (.Return (some (.Constant (.bool false) j pos)) pos2 :: rest) N σ1 H1 := fun {X ρ σ1 G1 H1 N rest j pos pos2} e1 e2 f1 en1 e3 => by
    refine s_ret e_bl same_nil f1.s en1 fun v G2 H2 f2 r2 => ?_
    rw [e3]
    refine q v G2 H2 (f1.trans f2) ?_
    rw [e1, ← e2]
    exact r2
  rcases hv with ⟨m, hm, hv⟩ | ⟨t, ht, hk⟩
  · by_cases hnt : ∃ ds, v = .tup ds
    · obtain ⟨ds, rfl⟩ := hnt
      obtain ⟨m, rfl, hl, hm2⟩ := hv.tup_inv
      by_cases h2 : ds.length = 2
      · obtain ⟨a, b, rfl⟩ : ∃ a b, ds = [a, b] := by
          match ds, h2 with
          | [a, b], _ => exact ⟨a, b, rfl⟩
        have ha := hm2 a (by simp)
        have hb := hm2 b (by simp)
        refine s_when (b := !wholeD a 2 5) ((t_or3 (t_not (t_val (e_isi "tuple" (t := "tuple") (k := true) B (e_v 0) rfl (by decide +kernel) B.tuple_))) (fun _ => t_cmp op_ne (e_lenT B (e_v 0)) e_int rd_neI) fun _ _ => t_not (t_val (e_call F1 (hr.mono (by decide)) (a_cons (e_at (e_v 0) rfl) (a_cons e_int (a_cons (e_glob (v := .int 5) mM ⟨_, rfl⟩ fun _ => .int 5) a_nil))) ⟨a, 2, 5, ha.ty, rfl, rfl⟩))).is (by simp)) same_nil sh en (fun hw0 G1 H1 f1 en1 => no ?_ rfl f1 en1 rfl) fun hw G1 H1 f1 en1 => ?_
        · have hw0 : wholeD a 2 5 = false := by simpa using hw0
          cases a with
          | int n =>
            rw [wholeD] at hw0
            cases b with
            | tup ds =>
              rw [isFamD, hw0]
              rfl
            | _ => rfl
          | _ => rfl
        · obtain ⟨n, rfl, hn1, hn2⟩ := whole_int (show wholeD a 2 5 = true by simpa using hw)
          refine s_two 1 2 (e_v 0) same_nil f1.s en1 fun σ2 G2 H2 f2 en2 => ?_
          have f12 := f1.trans f2
          by_cases hbt : ∃ es, b = .tup es
          · obtain ⟨es, rfl⟩ := hbt
            obtain ⟨m, rfl, hl3, hm3⟩ := hb.tup_inv
            have eqE : (D.tup es).eqv (D.tup []) = es.isEmpty := by
              unfold D.eqv
              cases es with
              | nil => rfl
              | cons e es => rfl
            refine s_when (b := !(!es.isEmpty && es.all fun x => isSetD x n)) ((t_or3 (t_not (t_val (e_isi "tuple" (t := "tuple") (k := true) B (e_v 2) rfl (by decide +kernel) B.tuple_))) (fun _ => t_eqD hr.units (e_v 2) (e_tup a_nil) hb.sh (Sh.tup (n := 0) (ds := []) (fun d hd => nomatch hd)) (by omega)) fun _ _ => t_not (t_val (e_all B (l_lc 3 (c_map id es (fun x => D.bl (isSetD x n)) 3 ((i_tup (e_v 2)).is (by simp)) (by omega)
              fun x hx _ _ _ _ _ => e_call F2 hr (a_cons (e_v 3) (a_cons (e_v 1) a_nil)) ⟨x, n, _, hm3 x hx, rfl, rfl⟩))))).is (by rw [eqE]; cases es.isEmpty <;> simp)) same_nil f2.s en2 (fun hb G3 H3 f3 en3 => no ?_ rfl (f12.trans f3) en3 rfl) fun hs G3 H3 f3 en3 => ?_
            · rw [Bool.not_eq_true'] at hb
              rw [isFamD, hb, Bool.and_false]
              rfl
            · have hs : (!es.isEmpty && es.all fun x => isSetD x n) = true := by simpa using hs
              have hs2 := (Bool.and_eq_true_iff.mp hs).2
              have e1 := all_sets hs2
              have hlf : (setsD es).length < 64 := by
                unfold setsD
                rw [List.length_map]
                exact hl3
              have evF : ∀ {X : Cx} {H0 : Hp} {ρ : Ro} {e : Expr}, Ev X H0 ρ e (.tup es) → Ev X H0 ρ e (dF (setsD es)) := fun h => h.is (congrArg D.tup e1)
              have hsm : ∀ o ∈ setsD es, o.length ≤ 1000 := fun o ho => by
                have q := hm3 (dS o) (by rw [e1]; exact List.mem_map.mpr ⟨o, ho, rfl⟩)
                obtain ⟨_, _, q, _⟩ := q.tup_inv
                rw [List.length_map] at q
                omega
              have eF : isFamD (.tup [.int n, .tup es]) = isFam n (setsD es) := by
                rw [isFamD, hs, decide_eq_true hn1, decide_eq_true hn2]
                rfl
              refine s_when (b := !(decide (setsD es = usort HT.lexLt (setsD es)) && decide (greatestIn (setsD es) = setsD es))) ((t_or2 (t_neD hr.units (l_listT B (evF (e_v 2))).ev (l_sortSetTT hr.units B.sorted_ B.set_ (evF (e_v 2)) hlf).ev (sh_lF (n := 0) _) (sh_lF (n := 0) _)) fun _ => t_neD hr.units (e_call F3 hr (a_cons (evF (e_v 2)) a_nil) ⟨_, _, .inl rfl, hlf, hsm, rfl, rfl⟩) (evF (e_v 2)) (sh_dF (n := 0) _) (sh_dF (n := 0) _)).is (by rw [eqv_lF, eqv_dF, Bool.not_and])) same_nil f3.s en3
                (fun hb G4 H4 f4 en4 => no ?_ rfl ((f12.trans f3).trans f4) en4 rfl) fun hs4 G4 H4 f4 en4 => ?_
              · rw [Bool.not_eq_true'] at hb
                rw [eF, isFam, hb]
                rfl
              · refine s_ret ((e_all B (l_lc 4 (c_map (fun t : Nat => D.int (t : Int)) (List.range n.toNat) (fun t => D.bl ((setsD es).any fun o => o.contains (t : Int))) 4 (i_range1 B.range_ (e_v 1) (by omega)) (by rw [List.length_range]; omega)
                  fun t ht _ _ _ _ _ => e_any B (l_lc 3 (c_map dS (setsD es) (fun o => D.bl (o.contains (t : Int))) 3 (i_tup (evF (e_v 2))) (by omega) fun o ho _ _ _ _ _ => e_cmp op_in_seq (e_v 4) (e_v 3) rd_inT))))).is ?_) same_nil f4.s en4 fun v G5 H5 f5 r5 => q v G5 H5 (((f12.trans f3).trans f4).trans f5) r5
                rw [eF, isFam, show (decide (setsD es = usort HT.lexLt (setsD es)) && decide (greatestIn (setsD es) = setsD es)) = true by simpa using hs4, Bool.true_and]
          · obtain ⟨t, ht, hk⟩ : ∃ t, b.tyS = some t ∧ kitB t "tuple" = some false := by
              cases hb with
              | non => exact ⟨_, rfl, by decide +kernel⟩
              | bl _ => exact ⟨_, rfl, by decide +kernel⟩
              | int _ => exact ⟨_, rfl, by decide +kernel⟩
              | str _ _ => exact ⟨_, rfl, by decide +kernel⟩
              | lst _ _ => exact ⟨_, rfl, by decide +kernel⟩
              | tup _ _ => exact absurd ⟨_, rfl⟩ hbt
            refine s_when (b := true) ((t_or3 (l := false) (m := false) (t_not (t_val (e_isi "tuple" (t := t) (k := false) B (e_v 2) ht hk B.tuple_))) (fun h => nomatch h) fun h => nomatch h).is (by simp)) same_nil f2.s en2 (fun hb G3 H3 f3 en3 => no ?_ rfl (f12.trans f3) en3 rfl) fun hb => nomatch hb
            cases b with
            | tup es => exact absurd ⟨es, rfl⟩ hbt
            | _ => rfl
      · refine s_when (b := true) ((t_or3 (m := false) (t_not (t_val (e_isi "tuple" (t := "tuple") (k := true) B (e_v 0) rfl (by decide +kernel) B.tuple_))) (fun _ => t_cmp op_ne (e_lenT B (e_v 0)) e_int rd_neI) fun _ h => ?_).is ?_) same_nil sh en (fun hb G1 H1 f1 en1 => no ?_ rfl f1 en1 rfl) fun hb => nomatch hb
        · exact absurd h (by simp; omega)
        · simp
          omega
        · exact fam_len h2
    · obtain ⟨t, ht, hk⟩ : ∃ t, v.tyS = some t ∧ kitB t "tuple" = some false := by
        cases hv with
        | non => exact ⟨_, rfl, by decide +kernel⟩
        | bl _ => exact ⟨_, rfl, by decide +kernel⟩
        | int _ => exact ⟨_, rfl, by decide +kernel⟩
        | str _ _ => exact ⟨_, rfl, by decide +kernel⟩
        | lst _ _ => exact ⟨_, rfl, by decide +kernel⟩
        | tup _ _ => exact absurd ⟨_, rfl⟩ hnt
      exact s_when (b := true) ((t_or3 (l := false) (m := false) (t_not (t_val (e_isi "tuple" (t := t) (k := false) B (e_v 0) ht hk B.tuple_))) (fun h => nomatch h) fun h => nomatch h).is (by simp)) same_nil sh en (fun hb G1 H1 f1 en1 => no (fam_not ht hk) rfl f1 en1 rfl) fun hb => nomatch hb
  · exact s_when (b := true) ((t_or3 (l := false) (m := false) (t_not (t_val (e_isi "tuple" (t := t) (k := false) B (e_v 0) ht hk B.tuple_))) (fun h => nomatch h) fun h => nomatch h).is (by simp)) same_nil sh en (fun hb G1 H1 f1 en1 => no (fam_not ht hk) rfl f1 en1 rfl) fun hb => nomatch hb
end

end G9
namespace G9
open PySem PySem.Spec PyProof.Rows L2 G9S
section
variable {P : Program} {w : World} {K : PySem.W.Frag} {mg : Str → Option Value} {base : Heap}
/-! ### _law_drawn -/
def drawn (c k : Int) : Int :=
  let m1 := (c * 6364136223846793005 + (k + 1) * 1442695040888963407) % 340282366920938463463374607431768211507
  let m2 := m1 * m1 % 340282366920938463463374607431768211297
  (m2 % 18446744073709551557 + 1) * (m2 / 18446744073709551557 + 1) * m2 % 340282366920938463463374607431768211507
theorem drawn_nn (c k : Int) : 0 ≤ drawn c k := Int.emod_nonneg _ (by decide)
def R_law_drawn (ds : List D) (d : D) : Prop := ∃ c k : Int, ds = [.int c, .int k] ∧ d = .int (drawn c k)
theorem sc_law_drawn : FnScope ["cell", "k", "more"] ["cell", "k"] (defScope s_law_drawn) := ⟨rfl, rfl, rfl, by decide +kernel, rfl, by decide +kernel, by decide +kernel⟩
theorem bits_of {m p : Int} {n : Nat} (h0 : 0 ≤ m) (h1 : m < p) (hp : p.natAbs ≤ 2 ^ n) : m.natAbs < 2 ^ n := by omega
theorem ok_law_drawn {f : Addr} {fd : FuncData} (F : Fun K "_law_drawn" "_law_drawn" s_law_drawn f fd) : FnOk P w K mg base CX0 1 f fd ["cell", "k"] (spR K R_law_drawn) := by
  refine okD F sc_law_drawn (fun ds d h => by obtain ⟨_, _, rfl, _⟩ := h; rfl) fun cdv A outer s H G E σ ds d Q hr hR sh en q => ?_
  obtain ⟨c, k, rfl, rfl⟩ := hR
  have hN := sc_law_drawn.nd
  have e1 := Int.emod_nonneg (c * 6364136223846793005 + (k + 1) * 1442695040888963407) (b := 340282366920938463463374607431768211507) (by decide)
  have e2 := Int.emod_lt_of_pos (c * 6364136223846793005 + (k + 1) * 1442695040888963407) (b := 340282366920938463463374607431768211507) (by decide)
  refine s_asg 2 (e_op op_mod (e_op op_add (e_op op_mul (e_v 0) e_int (rd_ic (.inr ⟨by decide, by decide⟩))) (e_op op_mul (e_op op_add (e_v 1) e_int rd_i) e_int (rd_ic (.inr ⟨by decide, by decide⟩))) rd_i) e_int (rd_ic (by decide))) same_nil sh en fun σ1 G1 H1 f1 en1 => ?_
  have b1 := bits_of (n := 129) e1 e2 (by decide)
  generalize hm1 : (c * 6364136223846793005 + (k + 1) * 1442695040888963407) % 340282366920938463463374607431768211507 = m1 at e1 e2 b1 en1
  refine s_asg 2 (e_op op_mod (e_op op_mulX (e_v 2) (e_v 2) (rd_ic (mulx_ok b1 b1 (by decide)))) e_int (rd_ic (by decide))) same_nil f1.s en1 fun σ2 G2 H2 f2 en2 => ?_
  have e3 := Int.emod_nonneg (m1 * m1) (b := 340282366920938463463374607431768211297) (by decide)
  have e4 := Int.emod_lt_of_pos (m1 * m1) (b := 340282366920938463463374607431768211297) (by decide)
  have b2 := bits_of (n := 128) e3 e4 (by decide)
  generalize hm2 : m1 * m1 % 340282366920938463463374607431768211297 = m2 at e3 e4 b2 en2
  have e5 := Int.emod_nonneg m2 (b := 18446744073709551557) (by decide)
  have e6 := Int.emod_lt_of_pos m2 (b := 18446744073709551557) (by decide)
  have e7 : 0 ≤ m2 / 18446744073709551557 := Int.ediv_nonneg e3 (by decide)
  have e8 : m2 / 18446744073709551557 ≤ m2 := Int.ediv_le_self _ e3
  have b3 : (m2 % 18446744073709551557 + 1).natAbs < 2 ^ 64 := by omega
  have b4 : (m2 / 18446744073709551557 + 1).natAbs < 2 ^ 129 := by omega
  have b5 : ((m2 % 18446744073709551557 + 1) * (m2 / 18446744073709551557 + 1)).natAbs < 2 ^ 193 := by
    rw [Int.natAbs_mul, show (2 : Nat) ^ 193 = 2 ^ 64 * 2 ^ 129 from by decide]
    exact Nat.mul_lt_mul'' b3 b4
  refine s_asg 2 (e_op op_mulX (e_op op_mulX (e_op op_add (e_op op_mod (e_v 2) e_int (rd_ic (by decide))) e_int rd_i) (e_op op_add (e_op op_fdivW (e_v 2) e_int (rd_ic (wide_div (b := 64) (by decide) (by decide) (by decide) (by decide)))) e_int rd_i) (rd_ic (mulx_ok b3 b4 (by decide)))) (e_v 2) (rd_ic (mulx_ok b5 b2 (by decide)))) same_nil f2.s en2 fun σ3 G3 H3 f3 en3 => ?_
  refine s_ret ((e_op op_mod (e_v 2) e_int (rd_ic (by decide))).is ?_) same_nil f3.s en3 fun v G4 H4 f4 r4 => q v G4 H4 (((f1.trans f2).trans f3).trans f4) r4
  unfold drawn
  simp only [hm1, hm2]
/-! ### _law_roll: any number below many; the dice turn -/
def Die (H : Hp) (a : Addr) : Prop := ∃ x y : Int, H a = some (.lst [.int x, .int y])
structure Fd (a : Addr) (H H' : Hp) : Prop where
  k : ∀ b o, b ≠ a → H b = some o → H' b = some o
  d : Die H' a
def spRoll : Sp := fun vs H Q _ => ∃ (a : Addr) (n : Int), vs = [.ref a, .int n] ∧ 0 < n ∧ n < 1000000000 ∧ Die H a ∧ ∀ r H', 0 ≤ r → r < n → Fd a H H' → Q (.int r) H'
theorem sc_law_roll : FnScope ["dice", "many", "told"] ["dice", "many"] (defScope s_law_roll) := ⟨rfl, rfl, rfl, by decide +kernel, rfl, by decide +kernel, by decide +kernel⟩
theorem ok_law_roll {f : Addr} {fd : FuncData} (F : Fun K "_law_roll" "_law_roll" s_law_roll f fd) (F1 : Fn P w K mg base "_law_drawn" 1 (spR K R_law_drawn)) : FnOk P w K mg base CX0 2 f fd ["dice", "many"] spRoll := by
  refine okS F sc_law_roll (fun vs H Q E h => by obtain ⟨a, n, rfl, _⟩ := h; rfl) fun cdv A outer s H E vs Q hr h => ?_
  obtain ⟨a, n, rfl, hn, hn2, ⟨x, y, ha⟩, q⟩ := h
  have hN := sc_law_roll.nd
  have en0 : ∀ {H' : Hp} {x y : Int} {t : Option V}, H' a = some (.lst [.int x, .int y]) → En K H' [some (.ref a), some (.int n), t] [some (.lst [.int x, .int y]), some (.int n), none] := fun {H' x y t} h => ⟨rfl, fun i d e => by
    match i, e with
    | 0, e => cases e; exact ⟨_, rfl, .lst h (.cons (.int _) (.cons (.int _) .nil))⟩
    | 1, e => cases e; exact ⟨_, rfl, .int _⟩
    | 2, e => cases e
    | i + 3, e => cases e⟩
  have eno : ∀ {t : Option V}, En K Nil [some (.ref a), some (.int n), t] [some (.ref a), none, none] := fun {t} => ⟨rfl, fun i d e => by
    match i, e with
    | 0, e => cases e; exact ⟨_, rfl, .ref a⟩
    | 1, e => cases e
    | 2, e => cases e
    | i + 3, e => cases e⟩
  refine s_when (t_cmp op_ge (e_atL (e_v 0) rfl) (e_op op_pow e_int e_int (rd_ic ⟨by decide, by decide, by decide⟩)) rd_b) same_nil (Same.refl H) (en0 ha) (fun hb G1 H1 f1 en1 => ?_) fun hb G1 H1 f1 en1 => ?_
  · refine s_asgX 2 (e_op op_mod (e_atL (e_v 0) rfl) (e_v 1) (rd_ic hn)) same_nil f1.s en1 fun t G2 H2 f2 r2 => ?_
    obtain rfl := r2.int_of
    have hH2 := (f1.h.trans f2.h) _ _ ha
    refine s_setL (j := 0) (ρo := [some (.ref a), none, none]) (e_op op_fdiv (e_atL (e_v 0) rfl) (e_v 1) (rd_ic ⟨hn, by omega⟩)) (e_v 0) e_int same_nil (Same.refl H2) (en0 hH2) eno hH2 (by show 0 < 2; decide) fun v G3 H3 f3 r3 => ?_
    obtain rfl := r3.int_of
    refine s_ret (ρ := [none, none, some (.int (x % n))]) (e_v 2) same_nil (Same.refl _) ⟨rfl, fun i d e => ?_⟩ fun v G4 H4 f4 r4 => ?_
    · match i, e with
      | 0, e => cases e
      | 1, e => cases e
      | 2, e => cases e; exact ⟨_, rfl, .int _⟩
      | i + 3, e => cases e
    · obtain rfl := r4.int_of
      refine q _ _ (Int.emod_nonneg _ (by omega)) (Int.emod_lt_of_pos _ hn) ⟨fun b o hb e => f4.h _ _ ?_, _, _, f4.h _ _ upd_same⟩
      rw [upd_ne hb]
      exact f3.h _ _ (f2.h _ _ (f1.h _ _ e))
  · have hH1 := f1.h _ _ ha
    refine s_setL (j := 1) (ρo := [some (.ref a), none, none]) (e_op op_add (e_atL (e_v 0) rfl) e_int rd_i) (e_v 0) e_int same_nil (Same.refl H1) (en0 hH1) eno hH1 (by show 1 < 2; decide) fun v G3 H3 f3 r3 => ?_
    obtain rfl := r3.int_of
    have hH4 : upd H3 a (.lst [.int x, .int (y + 1)]) a = some (.lst [.int x, .int (y + 1)]) := upd_same
    refine s_ret (e_op op_mod (e_op op_fdiv (e_call F1 hr (a_cons (e_atL (e_v 0) rfl) (a_cons (e_atL (e_v 0) rfl) a_nil)) ⟨x, y + 1, rfl, rfl⟩) e_int (rd_ic ⟨by decide, by decide⟩)) (e_v 1) (rd_ic hn)) same_nil (Same.refl _) (en0 hH4) fun v G4 H4 f4 r4 => ?_
    obtain rfl := r4.int_of
    refine q _ _ (Int.emod_nonneg _ (by omega)) (Int.emod_lt_of_pos _ hn) ⟨fun b o hb e => f4.h _ _ ?_, _, _, f4.h _ _ upd_same⟩
    show upd H3 a _ b = _
    rw [upd_ne hb]
    exact f3.h _ _ (f1.h _ _ e)
/-! ### _law_cell -/
def spCell (K : PySem.W.Frag) : Sp := fun vs H Q _ => ∃ (a : Addr) (ns : List Int) (k : Int), vs = [.ref a, .int k] ∧ SqL K H a (ns.map V.int) ∧ ns.length ≤ 63 ∧ 0 ≤ k ∧ k ≤ 1000 ∧ ∀ c H', Same H H' → Q (.int c) H'
theorem sc_law_cell : FnScope ["script", "k"] ["script", "k"] (defScope s_law_cell) := ⟨rfl, rfl, rfl, by decide +kernel, rfl, by decide +kernel, by decide +kernel⟩
theorem dp_ints {K : PySem.W.Frag} {H : Hp} : ∀ ns : List Int, DpAll K H (ns.map V.int) (ns.map PyData.int)
  | [] => .nil
  | n :: ns => .cons (.int n) (dp_ints ns)
theorem pyL_ints : ∀ ns : List Int, D.pyL (ns.map D.int) = ns.map PyData.int
  | [] => rfl
  | n :: ns => by rw [List.map_cons, List.map_cons, D.pyL, D.py, pyL_ints ns]
theorem ok_law_cell {f : Addr} {fd : FuncData} (F : Fun K "_law_cell" "_law_cell" s_law_cell f fd) (B : Blt mg) : FnOk P w K mg base CX0 1 f fd ["script", "k"] (spCell K) := by
  refine F.ok sc_law_cell (fun vs H Q E h => by obtain ⟨a, ns, k, rfl, _⟩ := h; rfl) fun cdv A outer s H vs Q E hr h => ?_
  obtain ⟨a, ns, k, rfl, hs, hl, hk, hk2, q⟩ := h
  refine ⟨_, pss_cons (ps_if (pt_cmpR (op_eqD hr.units) (pv 0) (pe_lst pa_nil) (nomark _)) (pss_one (ps_ret (pe_op op_mul (pv 1) pe_int))) pss_nil)
    (pss_one (ps_ret (pe_op op_add (pe_ix ix_list (pv 0) (pe_op op_mod (pv 1) (pe_callB call_len_seq (by rfl) B.len_ PySem.boot_len (pa_cons (pv 0) pa_nil))) (fun _ _ => rfl))
      (pe_op op_mul (pe_op op_fdiv (pv 1) (pe_callB call_len_seq (by rfl) B.len_ PySem.boot_len (pa_cons (pv 0) pa_nil))) pe_int)))), ?_⟩
  refine ⟨_, rfl, Nat.zero_le _, fun p hp => ?_⟩
  have s1 : Same H (upd H p (.lst [])) := Same.new hp
  have hs1 := s1.seq hs
  have shp : SeqAt.shaped (.list (ns.map PyData.int)) = true := by
    have := (sh_lS (n := 0) ns).shaped
    rw [D.py, pyL_ints] at this
    exact this
  refine ⟨_, _, .lst hs1 (dp_ints ns), .lst (SqL.of upd_same) .nil, shp, by decide +kernel, _, rfl, ?_⟩
  cases ns with
  | nil =>
    refine iteT ?_
    exact ⟨_, rfl, _, _, rfl, rfl, .inr ⟨by decide, by decide⟩, q _ _ s1⟩
  | cons m ns =>
    refine iteF ?_
    have hp0 : (0 : Int) < ((m :: ns).map V.int).length := by rw [List.length_map, List.length_cons]; omega
    have hj := Int.emod_lt_of_pos k hp0
    have hj0 := Int.emod_nonneg k (Int.ne_of_gt hp0)
    obtain ⟨z, hz⟩ : ∃ z, ((m :: ns).map V.int)[(k % (((m :: ns).map V.int).length : Int)).toNat]? = some (V.int z) := by
      rw [List.getElem?_map]
      have hlt : (k % (((m :: ns).map V.int).length : Int)).toNat < (m :: ns).length := by
        rw [List.length_map] at hj hj0 ⊢
        omega
      rw [List.getElem?_eq_getElem hlt]
      exact ⟨_, rfl⟩
    refine ⟨_, rfl, _, rfl, _, rfl, a, _, rfl, .inl hs1, _, _, rfl, rfl, hp0, a, _, _, V.int z, rfl, rfl, hs1, ?_, _, rfl, _, rfl, a, _, rfl, .inl hs1, _, _, rfl, rfl, ⟨hp0, ?_⟩, _, _, rfl, rfl, .inr ⟨by decide, by decide⟩, _, _, rfl, rfl, q _ _ s1⟩
    · refine at_of (j := (k % (((m :: ns).map V.int).length : Int)).toNat) ?_ hz
      rw [Int.toNat_of_nonneg hj0]
    · rw [List.length_map]
      omega
/-! ### _law_rounds: a new list of dice -/
def spRounds (K : PySem.W.Frag) : Sp := fun vs H Q _ => ∃ (sc : Addr) (ns : List Int) (m : Int), vs = [.ref sc, .int m] ∧ SqL K H sc (ns.map V.int) ∧ ns.length ≤ 63 ∧ 1 ≤ m ∧ m ≤ 10 ∧
  ∀ (l : Addr) (as : List Addr) (H' : Hp), Same H H' → H l = none → H' l = some (.lst (as.map V.ref)) → as.Nodup → (∀ a ∈ as, H a = none ∧ a ≠ l ∧ Die H' a) → Q (.ref l) H'
theorem sc_law_rounds : FnScope ["script", "most", "k"] ["script", "most"] (defScope s_law_rounds) := ⟨rfl, rfl, rfl, by decide +kernel, rfl, by decide +kernel, by decide +kernel⟩
theorem ok_law_rounds {f f1 : Addr} {fd fd1 : FuncData} (F : Fun K "_law_rounds" "_law_rounds" s_law_rounds f fd) (B : Blt mg) (G1 : FnOk P w K mg base CX0 1 f1 fd1 ["script", "k"] (spCell K)) (m1 : mg "_law_cell" = some (.ref f1)) (k1 : PySem.W.keepIn K (.ref f1) = true) (b1 : Binds K fd1 ["script", "k"] []) :
    FnOk P w K mg base CX0 2 f fd ["script", "most"] (spRounds K) := by
  refine F.ok sc_law_rounds (fun vs H Q E h => by obtain ⟨a, ns, k, rfl, _⟩ := h; rfl) fun cdv A outer s H vs Q E hr h => ?_
  obtain ⟨sc, ns, m, rfl, hs, hl, hm, hm2, q⟩ := h
  have nd := sc_law_rounds.nd
  refine ⟨_, pss_one (ps_ret (pe_lc (own := [("k", 2)]) (g := gName 2) (tt := tYes) rfl nd (pi_range1 rfl B.range_ (pa_cons (pe_callB (call_max2 rfl) (by rfl) B.max_ (by decide +kernel) (pa_cons pe_int (pa_cons (pe_callB (call_min2 rfl) (by rfl) B.min_ (by decide +kernel) (pa_cons (pv 1) (pa_cons (pe_callB call_len_seq (by rfl) B.len_ PySem.boot_len (pa_cons (pv 0) pa_nil)) pa_nil))) pa_nil))) pa_nil))
    (blkOk_by (N := ["script", "most", "k"]) (sc := defScope s_law_rounds) (by decide +kernel)) (fun _ _ _ _ _ => pg_name (i := 2) nd rfl (Or.inl rfl)) (fun _ _ _ _ _ => pts_nil)
    (fun _ _ _ _ _ => pe_lst (pa_cons (pe_call G1 hr rfl m1 k1 b1 .nil pass0 (pa_cons (pv 0) (pa_cons (pv 2) pa_nil))) (pa_cons pe_int pa_nil))))), ?_⟩
  refine ⟨_, rfl, _, rfl, sc, _, rfl, .inl hs, _, _, rfl, _, _, rfl, ?_⟩
  generalize hj : (if (if ((ns.map V.int).length : Int) < m then ((ns.map V.int).length : Int) else m) > 1 then (if ((ns.map V.int).length : Int) < m then ((ns.map V.int).length : Int) else m) else 1) = j
  have j1 : 1 ≤ j ∧ j ≤ 10 := by
    rw [← hj]
    split <;> split <;> omega
  refine ⟨j, rfl, by omega, by omega, fun Dl hD => ?_⟩
  refine lc_range (lo := 0) (n := j.toNat) (fun i H' => Same H H' ∧ ∃ as : List Addr, H' Dl = some (.lst (as.map V.ref)) ∧ as.length ≤ i ∧ as.Nodup ∧ ∀ a ∈ as, H a = none ∧ a ≠ Dl ∧ Die H' a) ⟨Same.new hD, [], upd_same, Nat.le_refl _, List.nodup_nil, fun a ha => nomatch ha⟩ (fun i H' hi ⟨p1, as, p2, p3, p4, p5⟩ => ?_) fun H' ⟨p1, as, p2, p3, p4, p5⟩ => ?_
  · refine ⟨rfl, ?_⟩
    unfold tYes
    dsimp only
    rw [if_pos rfl]
    refine ⟨_, rfl, _, rfl, sc, ns, _, rfl, p1.seq hs, hl, by omega, by omega, fun c H2 s2 => ?_⟩
    refine ⟨by show 2 ≤ sizeLine; decide, fun b hb => ⟨as.map V.ref, ?_, ?_, ?_⟩⟩
    · rw [upd_ne (ne_of_none (s2 _ _ p2) hb)]
      exact s2 _ _ p2
    · rw [List.length_map]
      exact Nat.lt_of_lt_of_le (show as.length < 100 by omega) (by decide)
    · have hbD : b ≠ Dl := fun z => by
        rw [z, s2 _ _ p2] at hb
        cases hb
      have hb0 : H b = none := p1.free (s2.free hb)
      refine ⟨Same.mut ((p1.trans s2).trans (Same.new hb)) hD, as ++ [b], ?_, by rw [List.length_append]; simp; omega, ?_, fun a ha => ?_⟩
      · rw [upd_same, List.map_append]
        rfl
      · refine List.nodup_append.mpr ⟨p4, by simp, fun a ha c hc => ?_⟩
        rw [List.mem_singleton] at hc
        subst hc
        intro z
        subst z
        obtain ⟨_, _, x, y, d⟩ := p5 a ha
        rw [s2 _ _ d] at hb
        cases hb
      · rcases List.mem_append.mp ha with ha | ha
        · obtain ⟨h1, h2, x, y, h3⟩ := p5 a ha
          refine ⟨h1, h2, x, y, ?_⟩
          rw [upd_ne h2, upd_ne (ne_of_none (s2 _ _ h3) hb)]
          exact s2 _ _ h3
        · rw [List.mem_singleton] at ha
          subst ha
          refine ⟨hb0, hbD, c, 0, ?_⟩
          rw [upd_ne hbD, upd_same]
  · exact q Dl as H' p1 hD p2 p4 p5
end

end G9
namespace G9
open PySem PySem.Spec PyProof.Rows L2 G9S
section
variable {P : Program} {w : World} {K : PySem.W.Frag} {mg : Str → Option Value} {base : Heap}
/-! ### _law_inside -/
theorem sc_law_inside : FnScope ["one", "other", "thing"] ["one", "other"] (defScope s_law_inside) := ⟨rfl, rfl, rfl, by decide +kernel, rfl, by decide +kernel, by decide +kernel⟩
theorem ok_law_inside {f : Addr} {fd : FuncData} (F : Fun K "_law_inside" "_law_inside" s_law_inside f fd) (B : Blt mg) : FnOk P w K mg base CX0 1 f fd ["one", "other"] (spR K R_within) := by
  refine okD F sc_law_inside (fun ds d h => by obtain ⟨a, b, _, rfl, _⟩ := h; rfl) fun cdv A outer s H G E σ ds d Q hr hR sh en q => ?_
  obtain ⟨a, b, ha, rfl, rfl⟩ := hR
  have hN := sc_law_inside.nd
  exact s_ret (e_all B (l_lc 2 (c_map D.int a (fun x => D.bl (b.contains x)) 2 (i_tup (e_v 0)) (by omega) fun x hx _ _ _ _ _ => e_cmp op_in_seq (e_v 2) (e_v 1) rd_inT))) same_nil sh en q
/-! ### _law_top -/
def lawTopStep (ks found : List (List Int)) (o : List Int) : List (List Int) := if !found.contains o && !((ks.filter fun p => !decide (p = o)).any fun p => subB o p) then found ++ [o] else found
def lawTop (ks : List (List Int)) : List (List Int) := (isort HT.lexLt ks).foldl (lawTopStep ks) []
def R_law_top (ds : List D) (d : D) : Prop := ∃ ks : List (List Int), ks.length < 64 ∧ (∀ o ∈ ks, o.length ≤ 1000) ∧ ds = [.lst (ks.map dS)] ∧ d = dF (lawTop ks)
theorem sc_law_top : FnScope ["sets", "found", "one", "others", "other"] ["sets"] (defScope s_law_top) := ⟨rfl, rfl, rfl, by decide +kernel, rfl, by decide +kernel, by decide +kernel⟩
theorem top_len (ks : List (List Int)) : ∀ (l f : List (List Int)), (l.foldl (lawTopStep ks) f).length ≤ f.length + l.length
  | [], f => by simp
  | o :: l, f => by
    have ih := top_len ks l (lawTopStep ks f o)
    have h1 : (lawTopStep ks f o).length ≤ f.length + 1 := by
      unfold lawTopStep
      split
      · simp
      · omega
    rw [List.foldl_cons, List.length_cons]
    omega
theorem take_fold (ks : List (List Int)) {l : List (List Int)} {i : Nat} {x : List Int} (h : l[i]? = some x) : (l.take (i + 1)).foldl (lawTopStep ks) [] = lawTopStep ks ((l.take i).foldl (lawTopStep ks) []) x := by
  rw [List.take_add_one, h, List.foldl_append]
  rfl
theorem ok_law_top {f : Addr} {fd : FuncData} (F : Fun K "_law_top" "_law_top" s_law_top f fd) (B : Blt mg) (F1 : Fn P w K mg base "_law_inside" 1 (spR K R_within)) : FnOk P w K mg base CX0 2 f fd ["sets"] (spR K R_law_top) := by
  refine okD F sc_law_top (fun ds d h => by obtain ⟨_, _, _, rfl, _⟩ := h; rfl) fun cdv A outer s H G E σ ds d Q hr hR sh en q => ?_
  obtain ⟨ks, hk, ho, rfl, rfl⟩ := hR
  have hN := sc_law_top.nd
  refine s_asgL 1 (l_lst a_nil) same_nil sh en fun l vs σ1 G1 H1 f1 hl gl hl1 r1 en1 => ?_
  have lo1 : Lo K G1 H1 l [] := ⟨gl, vs, hl1, r1⟩
  have hlen : ∀ i, ((isort HT.lexLt ks).take i).length ≤ ks.length := fun i => by
    rw [List.length_take, (isort_perm ks).length_eq]
    omega
  refine s_for 2 dS (isort HT.lexLt ks) (fun i ρ' G' H' => (∃ a b c, ρ' = [some (.lst (ks.map dS)), some (.ref l), a, b, c]) ∧ Fr G H G' H' ∧ Lo K G' H' l ((((isort HT.lexLt ks).take i).foldl (lawTopStep ks) []).map dS)) (i_lst (l_sortLT hr.units B.sorted_ (e_v 0)).ev) same_nil f1.s en1
    (fun G2 H2 f2 => ⟨⟨_, _, _, rfl⟩, f1.trans f2, lo1.fr f2⟩) (fun i x ρ' σ' G' H' G3 H3 hx hJ f3 en3 => ?_) fun ρ' σ' G' H' hJ s2 en2 => ?_
  · obtain ⟨⟨a, b, c, rfl⟩, fr, lo⟩ := hJ
    have fr3 := fr.trans f3
    have lo3 := lo.fr f3
    have hxm : x ∈ ks := (isort_perm ks).mem_iff.mp (List.mem_of_getElem? hx)
    have step := take_fold ks hx
    generalize hfd : ((isort HT.lexLt ks).take i).foldl (lawTopStep ks) [] = fnd at lo lo3 step
    have hfl : fnd.length ≤ ks.length := by
      have := top_len ks ((isort HT.lexLt ks).take i) []
      rw [hfd] at this
      have := hlen i
      simp at *
      omega
    refine s_asgV 3 4 (c_fil dS ks (fun p => !decide (p = x)) 4 (i_lst (e_v 0)) (by omega) fun p hp _ _ _ _ _ => (t_neD hr.units (e_v 4) (e_v 2) (sh_dS (n := 0) _) (sh_dS (n := 0) _)).is (by rw [eqv_dS])) same_nil f3.s en3 fun σ4 G4 H4 f4 en4 => ?_
    have lo4 := lo3.fr f4
    obtain ⟨G5, s45, s5, en5, _⟩ := lo4.en f4.s en4 (i := 1) rfl
    refine s_when (t_and2 (t_cmp (op_notInD (room65 hr)) (e_v 2) (e_v 1) rd_ninD) fun _ => t_not (t_val (e_any B (l_lc 4 (c_map dS (ks.filter fun p => !decide (p = x)) (fun p => D.bl (subB x p)) 4 (i_lst (e_v 3)) (by have := List.length_filter_le (fun p => !decide (p = x)) ks; omega) fun p hp _ _ _ _ _ => e_call F1 hr (a_cons (e_v 2) (a_cons (e_v 4) a_nil)) ⟨x, p, ho x hxm, rfl, rfl⟩))))) same_nil s5 en5 (fun hb G6 H6 f6 en6 => ?_) fun hb G6 H6 f6 en6 => ?_
    · have f46 : Fr G4 H4 G4 H6 := Fr.keep f4.s f6.h
      have fr6 := (fr3.trans f4).trans f46
      refine s_app (ds := fnd.map dS) (e_v 1) (e_v 2) same_nil f46.s en4 (lo4.fr f46) (by rw [List.length_map]; omega) fun G7 H7 H8 f7 e8 lo8 en8 => wB_nil (wB_nil ?_)
      obtain ⟨o8, e8⟩ := e8
      refine ⟨_, G7, (f3.g.trans f4.g).trans f7.g, ?_, en8, ⟨_, _, _, rfl⟩, ?_, ?_⟩
      · rw [e8]
        exact Same.mut f7.s lo8.out
      · rw [e8]
        exact (fr6.trans f7).mut hl lo8.out
      · rw [step, lawTopStep, hb, if_pos rfl, List.map_append]
        exact lo8
    · have f46 : Fr G4 H4 G4 H6 := Fr.keep f4.s f6.h
      refine wB_nil ⟨_, G4, f3.g.trans f4.g, f46.s, en4, ⟨_, _, _, rfl⟩, (fr3.trans f4).trans f46, ?_⟩
      rw [step, lawTopStep, hb, if_neg (by decide)]
      exact lo4.fr f46
  · obtain ⟨⟨a, b, c, rfl⟩, fr, lo⟩ := hJ
    obtain ⟨G5, s45, s5, en5, fr5⟩ := lo.en s2 en2 (i := 1) rfl
    rw [List.take_length] at en5
    exact s_ret (e_tuple B (e_v 1)) same_nil s5 en5 fun v G6 H6 f6 r6 => q v G6 H6 ((fr5 G H fr hl).trans f6) r6
end

end G9
namespace G9
open PySem PySem.Spec PyProof.Rows L2 G9S
/-! ### rolls within expressions -/
theorem Fd.refl {a : Addr} {H : Hp} (d : Die H a) : Fd a H H := ⟨fun _ _ _ e => e, d⟩
theorem Fd.trans {a : Addr} {H H1 H2 : Hp} (p : Fd a H H1) (q : Fd a H1 H2) : Fd a H H2 := ⟨fun b o hb e => q.k b o hb (p.k b o hb e), q.d⟩
theorem Fd.of {a : Addr} {H H' : Hp} (d : Die H a) (s : Same H H') : Fd a H H' := ⟨fun b o _ e => s b o e, let ⟨x, y, h⟩ := d; ⟨x, y, s _ _ h⟩⟩
theorem Fd.die {a : Addr} {H H' : Hp} (p : Fd a H H') : Die H' a := p.d
/-- a thing that is not the dice's, changed -/
theorem Fd.mut {a b : Addr} {o : HO} {H H' : Hp} (p : Fd a H H') (hb : H b = none) (ha : b ≠ a) : Fd a H (upd H' b o) := ⟨fun c u hc e => by
    rw [upd_ne (ne_of_none e hb)]
    exact p.k c u hc e, let ⟨x, y, h⟩ := p.d; ⟨x, y, by rw [upd_ne (Ne.symm ha)]; exact h⟩⟩
/-- heaps but for the dice -/
structure Fm (a : Addr) (G H G' H' : Hp) : Prop where
  h : ∀ b o, b ≠ a → H b = some o → H' b = some o
  g : Same G G'
  s : Same G' H'
  n : ∀ b, G b = none → H b ≠ none → G' b = none
  d : Die H' a
theorem die_ne {a : Addr} {H : Hp} (d : Die H a) : H a ≠ none := fun z => by
  obtain ⟨x, y, h⟩ := d
  rw [h] at z
  cases z
theorem Fm.refl {a : Addr} {G H : Hp} (s : Same G H) (d : Die H a) : Fm a G H G H := ⟨fun _ _ _ e => e, Same.refl _, s, fun _ e _ => e, d⟩
theorem Fm.trans {a : Addr} {G H G1 H1 G2 H2 : Hp} (p : Fm a G H G1 H1) (q : Fm a G1 H1 G2 H2) : Fm a G H G2 H2 :=
  ⟨fun b o hb e => q.h b o hb (p.h b o hb e), p.g.trans q.g, q.s, fun b e1 e2 => q.n b (p.n b e1 e2) fun z => by
    by_cases hb : b = a
    · subst hb
      exact die_ne p.d z
    · cases e : H b with
      | none => exact e2 e
      | some o => exact absurd (p.h b o hb e) (by rw [z]; exact fun y => nomatch y), q.d⟩
theorem Fr.m {a : Addr} {G H G' H' : Hp} (f : Fr G H G' H') (d : Die H a) : Fm a G H G' H' := ⟨fun b o _ e => f.h b o e, f.g, f.s, f.n, let ⟨x, y, h⟩ := d; ⟨x, y, f.h _ _ h⟩⟩
theorem Fd.m {a : Addr} {G H H' : Hp} (f : Fd a H H') (ga : G a = none) (s : Same G H) : Fm a G H G H' := ⟨f.k, Same.refl _, fun b o e => f.k b o (ne_of_none e ga) (s b o e), fun _ e _ => e, f.d⟩
theorem Fm.out {a l : Addr} {o : HO} {G H G' H' : Hp} (f : Fm a G H G' H') (h1 : G l = none) (hl : l ≠ a) (h2 : H l = some o) : G' l = none ∧ H' l = some o := ⟨f.n l h1 (by rw [h2]; exact fun z => nomatch z), f.h l o hl h2⟩
theorem Fm.dout {a : Addr} {G H G' H' : Hp} (f : Fm a G H G' H') (h1 : G a = none) (d : Die H a) : G' a = none := f.n a h1 (die_ne d)
theorem Fm.mut {a l : Addr} {o : HO} {G H G' H' : Hp} (f : Fm a G H G' H') (h0 : H l = none) (hl : l ≠ a) (h1 : G' l = none) : Fm a G H G' (upd H' l o) := ⟨fun b u hb e => by
    rw [upd_ne (ne_of_none e h0)]
    exact f.h b u hb e, f.g, Same.mut f.s h1, f.n, let ⟨x, y, h⟩ := f.d; ⟨x, y, by rw [upd_ne (Ne.symm hl)]; exact h⟩⟩
theorem Fm.add {a l : Addr} {o : HO} {G H G' H' : Hp} (f : Fm a G H G' H') (h0 : H l = none) (h1 : G' l = none) (h2 : H' l = some o) : Fm a G H (upd G' l o) H' := ⟨f.h, f.g.trans (Same.new h1), fun b u e => by
    by_cases hb : b = l
    · subst hb
      rw [upd_same] at e
      rw [h2]
      exact e
    · rw [upd_ne hb] at e
      exact f.s b u e, fun b e1 e2 => by
    have hb : b ≠ l := fun z => e2 (by rw [z]; exact h0)
    rw [upd_ne hb]
    exact f.n b e1 e2, f.d⟩
theorem Lo.fm {K : PySem.W.Frag} {a l : Addr} {G H G' H' : Hp} {ds : List D} (h : Lo K G H l ds) (hl : l ≠ a) (f : Fm a G H G' H') : Lo K G' H' l ds := by
  obtain ⟨vs, h1, h2⟩ := h.ex
  obtain ⟨g3, h3⟩ := f.out h.out hl h1
  exact ⟨g3, vs, h3, h2.up f.g⟩
section
variable {X : Cx} {σ : L2.St} {H : Hp} {a : Addr} {e2 : Expr} {n : Int} {x : Str} {p px pos : Pos}
/-- _law_roll(dice, e2) -/
theorem w_roll {Q : VK} (F : Fn X.prog X.w X.K X.mg X.base "_law_roll" 2 spRoll) (hr : Room 2 X.A) (i : Nat) (hσ : σ[i]? = some (some (.ref a))) (d : Die H a) (hn : 0 < n ∧ n < 1000000000) (h2 : ∀ Q' : VK, Q' (.int n) H → wE X e2 σ H Q') (q : ∀ r H', 0 ≤ r → r < n → Fd a H H' → Q (.int r) H')
    (hN : X.N[i]? = some x := by rfl) (hv : Vis X.env.scope x := by first | exact Or.inl rfl | exact Or.inr (Or.inl rfl) | exact Or.inr (Or.inr rfl)) (hd : (x == ("__debug__" : Str)) = false := by decide) (hcd : (x == ("__classdict__" : Str)) = false := by decide)
    (hg : Gl X "_law_roll" := by rfl) (he : starEach [.Name x px, e2] X.env = (false, eval (.Name x px) X.env) :: starEach [e2] X.env := by rfl) (he2 : starEach [e2] X.env = (false, eval e2 X.env) :: starEach [] X.env := by rfl) (hpl : (backTo pos (starEach [e2] X.env)).any (·.1) = false := by rfl) :
    wE X (.Call (.Name "_law_roll" p) [.Name x px, e2] [] pos) σ H Q := by
  obtain ⟨f, fd, ps, CX, F1, hm, hk, hb, hx⟩ := F.ex
  refine wE_of (pe_call F1 hr hg hm hk hb .nil (hx X rfl rfl) (pa_cons (pe_var hN hv hd hcd) (pa_cons pw pa_nil he2) he) (by decide) he hpl) ?_
  exact ⟨_, hσ, h2 _ ⟨a, n, rfl, hn.1, hn.2, d, q⟩⟩
theorem w_int {Q : VK} {i : Int} {j} (q : Q (.int i) H) : wE X (.Constant (.int i) j pos) σ H Q := wE_of pe_int q
theorem w_var {Q : VK} {v : V} (i : Nat) (hσ : σ[i]? = some (some v)) (q : Q v H) (hN : X.N[i]? = some x := by rfl) (hv : Vis X.env.scope x := by first | exact Or.inl rfl | exact Or.inr (Or.inl rfl) | exact Or.inr (Or.inr rfl)) (hd : (x == ("__debug__" : Str)) = false := by decide)
    (hcd : (x == ("__classdict__" : Str)) = false := by decide) : wE X (.Name x pos) σ H Q := wE_of (pe_var hN hv hd hcd) ⟨_, hσ, q⟩
/-- [t for t in range(e) if T], T rolls -/
theorem w_pick {Q : VK} {T er : Expr} {t : Str} {pt pn p2 pr : Pos} {scope : Scope} (j i : Nat) (hij : i ≠ j) (hjl : j < σ.length) (hσ : σ[i]? = some (some (.ref a))) (d : Die H a) (hn : 0 ≤ n ∧ n ≤ 1000) (hm : X.mg "range" = none) (h2 : ∀ Q' : VK, Q' (.int n) H → wE X er σ H Q')
    (hT : ∀ (s : Shared) (Hx : Hp) (C : Addr) (cl : List (Str × Addr)) (fp : List Addr) (σ' : L2.St) (H' : Hp) (Q' : Bool → Hp → Prop), σ'[i]? = some (some (.ref a)) → Die H' a → (∀ b H'', Fd a H' H'' → Q' b H'') → wT (X.blk s Hx scope (compEnvC scope cl C X.env) fp) T σ' H' Q')
    (q : ∀ l (ks : List Nat) H', H l = none → Fd a H H' → H' l = some (.lst (ks.map fun (k : Nat) => V.int (k : Int))) → ks.Sublist (List.range n.toNat) → Q (.ref l) H') (hN : X.N.Nodup := by assumption)
    (hg : ∀ (s : Shared) (H : Hp) (C : Addr) (cl : List (Str × Addr)) (fp : List Addr), PG (X.blk s H scope (compEnvC scope cl C X.env) fp) (.Name t pn) (gName j) := by first | exact fun _ _ _ _ _ => pg_name (by assumption) rfl (Or.inl rfl) | exact fun _ _ _ _ _ => pg_name (by assumption) rfl (Or.inr rfl))
    (hv : ∀ (s : Shared) (H : Hp) (C : Addr) (cl : List (Str × Addr)) (fp : List Addr), PE (X.blk s H scope (compEnvC scope cl C X.env) fp) (.Name t pt) (tVar j) := by exact fun _ _ _ _ _ => pv _)
    (ok : BlkOk X.N X.env.scope scope [(t, j)] := by exact blkOk_by (by first | kernel_rfl | rfl)) (hc : X.calm = true := by rfl) (hs : ∀ x, foldedSetIterable (.Call (.Name "range" pr) [er] [] p2) X.env x = pure x := by intro _; rfl) (hgl : Gl X "range" := by rfl) (hst : starEach [er] X.env = [(false, eval er X.env)] := by rfl)
    (hst2 : starEach [er] X.env = (false, eval er X.env) :: starEach [] X.env := by rfl) :
    wE X (.ListComp (.Name t pt) [⟨.Name t pn, .Call (.Name "range" pr) [er] [] p2, [T], 0⟩] scope pos) σ H Q := by
  refine wE_of (pe_lc (tt := bT X scope [T]) (te := tVar j) (own := [(t, j)]) hc hN (pi_range1 hgl hm (pa_cons pw pa_nil hst2) hst) ok hg (fun s H C cl fp => ⟨fun pins s1 σ1 H1 Q1 I h => h s H C cl fp pins s1 I⟩) hv hs) ?_
  refine h2 _ ⟨n, rfl, by omega, by omega, fun Dl hD => ?_⟩
  have hDa : Dl ≠ a := fun z => die_ne d (z ▸ hD)
  refine lc_range (lo := 0) (n := n.toNat) (fun k H' => Fd a H H' ∧ ∃ ks : List Nat, H' Dl = some (.lst (ks.map fun (k : Nat) => V.int (k : Int))) ∧ ks.Sublist (List.range k) ∧ ks.length ≤ k) ⟨(Fd.refl d).mut hD hDa, [], upd_same, List.nil_sublist _, Nat.zero_le _⟩ (fun k H' hk ⟨p1, ks, p2, p3, p4⟩ => ?_) fun H' ⟨p1, ks, p2, p3, _⟩ => q Dl ks H' hD p1 p2 p3
  have hwi : ((wipe σ [j]).set j (some (.int (0 + (k : Int)))))[i]? = some (some (.ref a)) := by
    show ((σ.set j none).set j _)[i]? = _
    rw [List.getElem?_set_ne (Ne.symm hij), List.getElem?_set_ne (Ne.symm hij)]
    exact hσ
  refine ⟨?_, fun s Hx C cl fp pins s1 I => (pts_one ptw).run pins s1 _ _ _ I (hT s Hx C cl fp _ H' _ hwi p1.d fun b H2 f2 => ?_)⟩
  · show ((σ.set j none).set j (some _)).set j none = σ.set j none
    rw [List.set_set, List.set_set]
  · have p2' := f2.k _ _ hDa p2
    cases b with
    | false =>
      rw [if_neg (by decide)]
      exact ⟨p1.trans f2, ks, p2', p3.trans (List.range_sublist.mpr (Nat.le_succ k)), Nat.le_succ_of_le p4⟩
    | true =>
      rw [if_pos rfl]
      refine ⟨V.int (0 + (k : Int)), ?_, _, p2', ?_, (p1.trans f2).mut hD hDa, ks ++ [k], ?_, ?_, ?_⟩
      · show ((σ.set j none).set j (some _))[j]? = _
        rw [List.getElem?_set_self (by rw [List.length_set]; exact hjl)]
      · rw [List.length_map]
        exact Nat.lt_of_le_of_lt (show ks.length ≤ 1000 by omega) (by decide)
      · rw [upd_same, List.map_append]
        simp
      · rw [List.range_succ]
        exact List.Sublist.append p3 (List.Sublist.refl _)
      · rw [List.length_append]
        simp
        omega
end

end G9
namespace G9
open PySem PySem.Spec PyProof.Rows L2 G9S
section
variable {P : Program} {w : World} {K : PySem.W.Frag} {mg : Str → Option Value} {base : Heap}
theorem Lo.en2 {K : PySem.W.Frag} {G H : Hp} {σ : L2.St} {ρ : Ro} {ds : List D} {l : Addr} {i : Nat} (h : Lo K G H l ds) (sh : Same G H) (en : En K G σ ρ) (hi : ρ[i]? = some (some (.ref l))) :
    ∃ vs, H l = some (.lst vs) ∧ Same (upd G l (.lst vs)) H ∧ En K (upd G l (.lst vs)) σ (ρ.set i (some (.lst ds))) := by
  obtain ⟨vs, h1, h2⟩ := h.ex
  have hs : Same (upd G l (.lst vs)) H := fun a u e => by
    by_cases ha : a = l
    · subst ha
      rw [upd_same] at e
      rw [h1]
      exact e
    · rw [upd_ne ha] at e
      exact sh a u e
  refine ⟨vs, h1, hs, by rw [List.length_set]; exact en.len, fun j d q => ?_⟩
  by_cases hj : i = j
  · subst hj
    rw [List.getElem?_set_self ((List.getElem?_eq_some_iff.mp hi).1)] at q
    cases q
    obtain ⟨v, a1, a2⟩ := en.at_ i _ hi
    cases a2
    exact ⟨_, a1, .lst upd_same (h2.up (Same.new h.out))⟩
  · rw [List.getElem?_set_ne hj] at q
    exact (en.up (Same.new (o := .lst vs) h.out)).at_ j d q
theorem En.skip {K : PySem.W.Frag} {G : Hp} {σ : L2.St} {ρ : Ro} {i : Nat} {v : Option V} (h : En K G σ ρ) (hi : ρ[i]? = some none) : En K G (σ.set i v) ρ := ⟨by rw [List.length_set]; exact h.len, fun j d e => by
    have hj : i ≠ j := fun z => by
      subst z
      rw [hi] at e
      cases e
    rw [List.getElem?_set_ne hj]
    exact h.at_ j d e⟩
theorem En.ref {K : PySem.W.Frag} {G : Hp} {σ : L2.St} {ρ : Ro} {i : Nat} {a : Addr} (h : En K G σ ρ) (hi : ρ[i]? = some (some (.ref a)) := by rfl) : σ[i]? = some (some (.ref a)) := by
  obtain ⟨v, h1, h2⟩ := h.at_ i _ hi
  rw [h1, h2.ref_of]
theorem En.int {K : PySem.W.Frag} {G : Hp} {σ : L2.St} {ρ : Ro} {i : Nat} {a : Int} (h : En K G σ ρ) (hi : ρ[i]? = some (some (.int a)) := by rfl) : σ[i]? = some (some (.int a)) := by
  obtain ⟨v, h1, h2⟩ := h.at_ i _ hi
  rw [h1, h2.int_of]
/-- an ascending set of things below n -/
structure SetIn (n : Int) (o : List Int) : Prop where
  asc : o.Pairwise (· < ·)
  low : ∀ x ∈ o, 0 ≤ x ∧ x < n
theorem SetIn.len {n : Int} {o : List Int} (h : SetIn n o) (hn : n ≤ 5) : o.length ≤ 5 := by
  have key : ∀ (o : List Int) (lo : Int), o.Pairwise (· < ·) → (∀ x ∈ o, lo ≤ x ∧ x < n) → (o.length : Int) ≤ n - lo ∨ o = [] := by
    intro o
    induction o with
    | nil => intro lo _ _; exact .inr rfl
    | cons x o ih =>
      intro lo h1 h2
      obtain ⟨a1, a2⟩ := List.pairwise_cons.mp h1
      have hx := h2 x List.mem_cons_self
      left
      rcases ih (x + 1) a2 (fun y hy => ⟨by have := a1 y hy; omega, (h2 y (List.mem_cons_of_mem _ hy)).2⟩) with h | h
      · rw [List.length_cons]
        omega
      · rw [h, List.length_cons, List.length_nil]
        omega
  rcases key o 0 h.asc h.low with q | q
  · omega
  · rw [q]
    decide
theorem setIn_of {n : Int} {ks : List Nat} (h : ks.Sublist (List.range n.toNat)) : SetIn n (ks.map fun (k : Nat) => (k : Int)) := by
  refine ⟨List.pairwise_map.mpr ((List.Pairwise.sublist h List.pairwise_lt_range).imp fun {x y} q => by omega), fun x hx => ?_⟩
  obtain ⟨k, hk, rfl⟩ := List.mem_map.mp hx
  have := List.mem_range.mp (h.mem hk)
  omega
/-- what _law_family draws -/
structure Raw (n : Int) (ks : List (List Int)) : Prop where
  ne : ks ≠ []
  few : ks.length ≤ 9
  sets : ∀ o ∈ ks, SetIn n o
  cover : ∀ t : Int, 0 ≤ t → t < n → ∃ o ∈ ks, t ∈ o
def spFam (K : PySem.W.Frag) : Sp := fun vs H Q _ => ∃ (a : Addr) (n : Int) (G : Hp), vs = [.ref a, .int n] ∧ 2 ≤ n ∧ n ≤ 5 ∧ Same G H ∧ G a = none ∧ Die H a ∧ ∀ v ks G' H', Fm a G H G' H' → Raw n ks → Rp K G' v (dFam n (lawTop ks)) → Q v H'
theorem sc_law_family : FnScope ["dice", "many", "sets", "turn", "thing", "one"] ["dice", "many"] (defScope s_law_family) := ⟨rfl, rfl, rfl, by decide +kernel, rfl, by decide +kernel, by decide +kernel⟩
theorem ok_law_family {f : Addr} {fd : FuncData} (F : Fun K "_law_family" "_law_family" s_law_family f fd) (B : Blt mg) (F1 : Fn P w K mg base "_law_roll" 2 spRoll) (F2 : Fn P w K mg base "_law_top" 2 (spR K R_law_top)) : FnOk P w K mg base CX0 3 f fd ["dice", "many"] (spFam K) := by
  refine okS F sc_law_family (fun vs H Q E h => by obtain ⟨a, n, G, rfl, _⟩ := h; rfl) fun cdv A outer s H E vs Q hr h => ?_
  obtain ⟨a, n, G, rfl, hn, hn2, sh, ga, da, q⟩ := h
  have hN := sc_law_family.nd
  have en : En K G (L2.start ["dice", "many", "sets", "turn", "thing", "one"] [.ref a, .int n]) [some (.ref a), some (.int n), none, none, none, none] := en_start (N := ["dice", "many", "sets", "turn", "thing", "one"]) (ds := [.ref a, .int n]) (.cons (.ref a) (.cons (.int n) .nil))
  refine s_asgL 2 (l_lst a_nil) same_nil sh en fun l vs1 σ1 G1 H1 f1 hl gl hl1 r1 en1 => ?_
  have hla : l ≠ a := fun z => die_ne da (z ▸ hl)
  have m1 := f1.m da
  have lo1 : Lo K G1 H1 l (([] : List (List Int)).map dS) := ⟨gl, vs1, hl1, r1⟩
  -- the first loop
  refine wB_cons (wS_of (ps_for PassesOwn.never rfl (pi_range1 rfl B.range_ (pa_cons pw pa_nil)) (pg_name (i := 3) hN rfl (Or.inl rfl)) pbw) ?_)
  refine wE_of (pe_op op_add pw pw) (w_int (w_roll F1 hr 0 en1.ref m1.d (by decide) (fun Q' h => w_int h) fun r H2 r0 r4 fd2 => ⟨1, r, rfl, rfl, 1 + r, rfl, by omega, by omega, ?_⟩))
  have m2 : Fm a G H G1 H2 := m1.trans (fd2.m (m1.dout ga da) m1.s)
  have lo2 : Lo K G1 H2 l (([] : List (List Int)).map dS) := lo1.fm hla (fd2.m (m1.dout ga da) m1.s)
  refine for_range (lo := 0) (n := (1 + r).toNat) (fun i σ' H' => ∃ (G' : Hp) (ks : List (List Int)), Fm a G H G' H' ∧ Lo K G' H' l (ks.map dS) ∧ En K G' σ' [some (.ref a), some (.int n), some (.ref l), none, none, none] ∧ ks.length = i ∧ ∀ o ∈ ks, SetIn n o)
    ⟨G1, [], m2, lo2, en1, rfl, fun o ho => nomatch ho⟩ (fun i σ' H' hi ⟨G', ks, p1, p2, p3, p4, p5⟩ => ?_) fun σ' H' ⟨G', ks, p1, p2, p3, p4, p5⟩ => ?_
  · have p3' := p3.skip (i := 3) (v := some (.int (0 + (i : Int)))) rfl
    have ga' := p1.dout ga da
    show wB _ _ _ _ _
    refine wB_cons (wS_of (ps_expr (pe_bm PySem.F.plainAttrs_list PySem.F.slot_list_append PySem.F.type_list_append mt_append (pv 2) (pa_cons (pe_callTy call_tuple_of (by rfl) B.tuple_ (by decide +kernel) (pa_cons pw pa_nil)) pa_nil))) ?_)
    obtain ⟨vs2, h2, r2⟩ := p2.ex
    refine ⟨_, p3'.ref (i := 2), .inl ⟨rfl, _, SqL.of h2⟩, ?_⟩
    refine w_pick (n := n) 4 0 (by decide) (by rw [p3'.len]; show 4 < 6; decide) p3'.ref p1.d (by omega) B.range_ (fun Q' h => w_var 1 p3'.int h) (fun s Hx C cl fp σ2 H3 Q' hσ d3 q3 => ?_) fun l2 kk H3 hl2 fd3 hl3 sub => ?_
    · refine wT_of (pt_cmpR op_eq pw pw (nomark _)) (w_roll F1 hr 0 hσ d3 (by decide) (fun Q' h => w_int h) fun r H4 r0 r2 fd4 => w_int ⟨rfl, _, rfl, q3 _ H4 fd4⟩)
    · refine ⟨l2, _, rfl, .inl ⟨SqL.of hl3, fun p hp => ?_⟩⟩
      have m3 : Fm a G' H' G' H3 := fd3.m ga' p1.s
      have lo3 := p2.fm hla m3
      have f4 := Fr.new (o := .tup (kk.map fun (k : Nat) => V.int (k : Int))) m3.s hp
      have lo4 := lo3.fr f4
      have m4 := (p1.trans m3).trans (f4.m m3.d)
      obtain ⟨vs4, h4, r4⟩ := lo4.ex
      refine ⟨l, vs4, .ref p, rfl, rfl, h4, ?_, wB_nil ⟨_, ks ++ [kk.map fun (k : Nat) => (k : Int)], m4.mut hl hla lo4.out, ⟨lo4.out, _, upd_same, ?_⟩, p3'.up (m3.g.trans f4.g), ?_, fun o ho => ?_⟩⟩
      · rw [r4.length, List.length_map, p4]
        exact Nat.lt_of_lt_of_le (show i < 100 by omega) (by decide)
      · rw [List.map_append]
        refine r4.append (RpL.one (.tup (.inl (.inl upd_same)) ?_))
        have e : (kk.map fun (k : Nat) => V.int (k : Int)) = (kk.map fun (k : Nat) => (k : Int)).map V.int := by
          rw [List.map_map]
          rfl
        rw [e]
        exact RpL.ints _
      · rw [List.length_append, p4]
        rfl
      · rcases List.mem_append.mp ho with ho | ho
        · exact p5 o ho
        · rw [List.mem_singleton.mp ho]
          exact setIn_of sub
  · have hk1 : 1 ≤ ks.length ∧ ks.length ≤ 4 := by omega
    show wB _ _ _ _ _
    refine s_for 4 (fun t : Nat => D.int (t : Int)) (List.range n.toNat) (fun i ρ' G2 H2 => (∃ x, ρ' = [some (.ref a), some (.int n), some (.ref l), none, x, none]) ∧ ∃ ks2 : List (List Int), Fm a G H G2 H2 ∧ Lo K G2 H2 l (ks2.map dS) ∧ (1 ≤ ks2.length ∧ ks2.length ≤ 4 + i) ∧ (∀ o ∈ ks2, SetIn n o) ∧ ∀ t : Int, 0 ≤ t → t < (i : Int) → ∃ o ∈ ks2, t ∈ o)
      (i_range1 B.range_ (e_v 1) (by omega)) same_nil p1.s p3 (fun G2 H2 f2 => ⟨⟨_, rfl⟩, ks, p1.trans (f2.m p1.d), p2.fr f2, by omega, p5, fun t h1 h2 => by omega⟩) (fun i x ρ2 σ2 G2 H2 G3 H3 hx hJ f3 en3 => ?_) fun ρ2 σ2 G2 H2 hJ s2 en2 => ?_
    · obtain ⟨⟨y, rfl⟩, ks2, j1, j2, j3, j4, j5⟩ := hJ
      have hxi : x = i ∧ i < n.toNat := by
        have h := (List.getElem?_eq_some_iff.mp hx)
        obtain ⟨h1, h2⟩ := h
        rw [List.length_range] at h1
        rw [List.getElem_range] at h2
        exact ⟨h2.symm, h1⟩
      obtain ⟨rfl, hxn⟩ := hxi
      have j1' := j1.trans (f3.m j1.d)
      have lo3 := j2.fr f3
      obtain ⟨G4, s34, s4, en4, _⟩ := lo3.en f3.s en3 (i := 2) rfl
      refine s_when (t_not (t_val (e_any B (l_lc 5 (c_map dS ks2 (fun o => D.bl (o.contains (x : Int))) 5 (i_lst (e_v 2)) (by omega) fun o ho _ _ _ _ _ => e_cmp op_in_seq (e_v 4) (e_v 5) rd_inT))))) same_nil s4 en4 (fun hb G5 H5 f5 en5 => ?_) fun hb G5 H5 f5 en5 => ?_
      · have f35 : Fr G3 H3 G3 H5 := Fr.keep f3.s f5.h
        refine s_app (ds := ks2.map dS) (e_v 2) (e_tup (a_cons (e_v 4) a_nil) (by show 1 ≤ 100000; decide)) same_nil f35.s en3 (lo3.fr f35) (by rw [List.length_map]; omega) fun G7 H7 H8 f7 e8 lo8 en8 => wB_nil (wB_nil ?_)
        obtain ⟨o8, e8⟩ := e8
        refine ⟨_, G7, f3.g.trans f7.g, ?_, en8, ⟨_, rfl⟩, ks2 ++ [[(x : Int)]], ?_, ?_, ?_, fun o ho => ?_, fun t h1 h2 => ?_⟩
        · rw [e8]
          exact Same.mut f7.s lo8.out
        · rw [e8]
          exact ((j1'.trans (f35.m j1'.d)).trans (f7.m (j1'.trans (f35.m j1'.d)).d)).mut hl hla lo8.out
        · rw [List.map_append]
          exact lo8
        · rw [List.length_append, List.length_singleton]
          omega
        · rcases List.mem_append.mp ho with ho | ho
          · exact j4 o ho
          · rw [List.mem_singleton.mp ho]
            refine ⟨List.pairwise_singleton _ _, fun z hz => ?_⟩
            rw [List.mem_singleton.mp hz]
            omega
        · by_cases e : t < (x : Int)
          · obtain ⟨o, ho, hto⟩ := j5 t h1 e
            exact ⟨o, List.mem_append_left _ ho, hto⟩
          · refine ⟨[(x : Int)], List.mem_append_right _ (by simp), ?_⟩
            rw [List.mem_singleton]
            omega
      · have f35 : Fr G3 H3 G3 H5 := Fr.keep f3.s f5.h
        refine wB_nil ⟨_, G3, f3.g, f35.s, en3, ⟨_, rfl⟩, ks2, j1'.trans (f35.m j1'.d), lo3.fr f35, by omega, j4, fun t h1 h2 => ?_⟩
        by_cases e : t < (x : Int)
        · exact j5 t h1 e
        · have et : t = (x : Int) := by omega
          have hb : (ks2.any fun o => o.contains (x : Int)) = true := by simpa using hb
          obtain ⟨o, ho, hc⟩ := List.any_eq_true.mp hb
          exact ⟨o, ho, by rw [et]; exact List.contains_iff_mem.mp hc⟩
    · obtain ⟨⟨y, rfl⟩, ks2, j1, j2, j3, j4, j5⟩ := hJ
      rw [List.length_range] at j3 j5
      have raw : Raw n ks2 := ⟨fun z => by rw [z] at j3; simp at j3, by omega, j4, fun t h1 h2 => j5 t h1 (by omega)⟩
      obtain ⟨vs4, h4, s4, en4⟩ := j2.en2 s2 en2 (i := 2) rfl
      have m5 := j1.add hl j2.out h4
      exact s_ret (e_tup (a_cons (e_v 1) (a_cons (e_call F2 hr (a_cons (e_v 2) a_nil) ⟨ks2, by omega, fun o ho => Nat.le_trans ((j4 o ho).len hn2) (by decide), rfl, rfl⟩) a_nil)) (by show 2 ≤ 100000; decide)) same_nil s4 en4 fun v G6 H6 f6 r6 => q v ks2 G6 H6 (m5.trans (f6.m m5.d)) raw r6
end

end G9
namespace G9
open PySem PySem.Spec PyProof.Rows L2 G9S
/-! ### what is drawn is a family -/
theorem subB_iff {a b : List Int} : subB a b = true ↔ ∀ x ∈ a, x ∈ b := by
  unfold subB
  rw [List.all_eq_true]
  exact ⟨fun h x hx => List.contains_iff_mem.mp (h x hx), fun h x hx => List.contains_iff_mem.mpr (h x hx)⟩
theorem topB_iff {f : List (List Int)} {o : List Int} : topB f o = true ↔ ∀ p ∈ f, subB o p = true → o = p := by
  unfold topB
  rw [Bool.not_eq_true', List.any_eq_false]
  constructor
  · intro h p hp hs
    have := h p hp
    by_cases e : o = p
    · exact e
    · exact absurd (by rw [decide_eq_false e, hs]; rfl) this
  · intro h p hp q
    rw [Bool.and_eq_true, Bool.not_eq_true'] at q
    exact absurd (h p hp q.2) (of_decide_eq_false q.1)
theorem max_iff {ks : List (List Int)} {o : List Int} : (!((ks.filter fun p => !decide (p = o)).any fun p => subB o p)) = topB ks o := by
  unfold topB
  congr 1
  induction ks with
  | nil => rfl
  | cons k ks ih =>
    rw [List.any_cons, ← ih]
    by_cases e : k = o
    · subst e
      rw [List.filter_cons_of_neg (by simp)]
      simp
    · rw [List.filter_cons_of_pos (by simpa using e), List.any_cons]
      have e' : ¬ o = k := fun z => e z.symm
      rw [decide_eq_false e']
      rfl
theorem lawTopStep_eq (ks found : List (List Int)) (o : List Int) : lawTopStep ks found o = if !found.contains o && topB ks o then found ++ [o] else found := by
  unfold lawTopStep
  rw [max_iff]
/-- the fold over an ascending list -/
theorem top_fold (ks : List (List Int)) : ∀ (l f : List (List Int)), l.Pairwise (fun a b => HT.lexLt b a = false) → f.Pairwise (fun a b => HT.lexLt a b = true) → (∀ x ∈ f, ∀ y ∈ l, HT.lexLt y x = false) →
    (l.foldl (lawTopStep ks) f).Pairwise (fun a b => HT.lexLt a b = true) ∧ ∀ z, z ∈ l.foldl (lawTopStep ks) f ↔ z ∈ f ∨ (z ∈ l ∧ topB ks z = true)
  | [], f, _, h2, _ => ⟨h2, fun z => by simp⟩
  | o :: l, f, h1, h2, h3 => by
    obtain ⟨a1, a2⟩ := List.pairwise_cons.mp h1
    rw [List.foldl_cons, lawTopStep_eq]
    split
    · rename_i hc
      rw [Bool.and_eq_true, Bool.not_eq_true'] at hc
      have hno : o ∉ f := fun z => by
        rw [List.contains_iff_mem.mpr z] at hc
        cases hc.1
      obtain ⟨b1, b2⟩ := top_fold ks l (f ++ [o]) a2 (List.pairwise_append.mpr ⟨h2, List.pairwise_singleton _ _, fun x hx y hy => by
          rw [List.mem_singleton.mp hy]
          have q := h3 x hx o List.mem_cons_self
          cases e : HT.lexLt x o with
          | true => rfl
          | false => exact absurd (stoL.tot x o e q ▸ hx) hno⟩) fun x hx y hy => by
        rcases List.mem_append.mp hx with hx | hx
        · exact h3 x hx y (List.mem_cons_of_mem _ hy)
        · rw [List.mem_singleton.mp hx]
          exact a1 y hy
      refine ⟨b1, fun z => ?_⟩
      rw [b2, List.mem_append, List.mem_singleton, List.mem_cons]
      constructor
      · rintro ((h | h) | h)
        · exact .inl h
        · exact .inr ⟨.inl h, by rw [h]; exact hc.2⟩
        · exact .inr ⟨.inr h.1, h.2⟩
      · rintro (h | ⟨h | h, h'⟩)
        · exact .inl (.inl h)
        · exact .inl (.inr h)
        · exact .inr ⟨h, h'⟩
    · rename_i hc
      obtain ⟨b1, b2⟩ := top_fold ks l f a2 h2 fun x hx y hy => h3 x hx y (List.mem_cons_of_mem _ hy)
      refine ⟨b1, fun z => ?_⟩
      rw [b2, List.mem_cons]
      constructor
      · rintro (h | h)
        · exact .inl h
        · exact .inr ⟨.inr h.1, h.2⟩
      · rintro (h | ⟨h | h, h'⟩)
        · exact .inl h
        · subst h
          by_cases hm : z ∈ f
          · exact .inl hm
          · exact absurd (by
              rw [h', Bool.and_true, Bool.not_eq_true']
              exact Bool.eq_false_iff.mpr fun q => hm (List.contains_iff_mem.mp q)) hc
        · exact .inr ⟨h, h'⟩
theorem lawTop_eq (ks : List (List Int)) : lawTop ks = greatestIn ks := by
  obtain ⟨h1, h2⟩ := top_fold ks (isort HT.lexLt ks) [] (isort_le stoL ks) List.Pairwise.nil fun x hx => nomatch hx
  refine usort_eq stoL h1 fun x => ?_
  rw [show lawTop ks = (isort HT.lexLt ks).foldl (lawTopStep ks) [] from rfl, h2, (isort_perm ks).mem_iff, List.mem_filter]
  simp
theorem great_mem {ks : List (List Int)} {o : List Int} : o ∈ greatestIn ks ↔ o ∈ ks ∧ topB ks o = true := by
  unfold greatestIn
  rw [usort_mem stoL, List.mem_filter]
/-- a family -/
structure FamOk (n : Int) (f : List (List Int)) : Prop where
  n2 : 2 ≤ n
  n5 : n ≤ 5
  ne : f ≠ []
  few : f.length ≤ 32
  sets : ∀ o ∈ f, SetIn n o
  asc : f.Pairwise fun a b => HT.lexLt a b = true
  anti : ∀ o ∈ f, ∀ p ∈ f, subB o p = true → o = p
  cover : ∀ t : Int, 0 ≤ t → t < n → ∃ o ∈ f, t ∈ o
theorem asc_eq {a b : List Int} (ha : a.Pairwise (· < ·)) (hb : b.Pairwise (· < ·)) (h : ∀ x, x ∈ a ↔ x ∈ b) : a = b :=
  strict_eq stoI (ha.imp fun {x y} z => decide_eq_true z) (hb.imp fun {x y} z => decide_eq_true z) h
theorem asc_nodup {a : List Int} (ha : a.Pairwise (· < ·)) : a.Nodup := ha.imp fun {x y} z e => by omega
theorem nodup_len : ∀ {a b : List Int}, a.Nodup → (∀ x ∈ a, x ∈ b) → a.length ≤ b.length
  | [], b, _, _ => Nat.zero_le _
  | x :: a, b, hn, h => by
    obtain ⟨h1, h2⟩ := List.nodup_cons.mp hn
    have hx := h x List.mem_cons_self
    have ih := nodup_len (a := a) (b := b.erase x) h2 fun y hy => (List.mem_erase_of_ne (show y ≠ x from fun e => h1 (by rw [← e]; exact hy))).mpr (h y (List.mem_cons_of_mem _ hy))
    rw [List.length_erase_of_mem hx] at ih
    have := List.length_pos_of_mem hx
    rw [List.length_cons]
    omega
theorem nodup_all {a b : List Int} (ha : a.Nodup) (h : ∀ x ∈ a, x ∈ b) (hl : b.length ≤ a.length) : ∀ x ∈ b, x ∈ a := fun x hx => Classical.byContradiction fun hno => by
  have ih := nodup_len (a := a) (b := b.erase x) ha fun y hy => (List.mem_erase_of_ne (show y ≠ x from fun e => hno (by rw [← e]; exact hy))).mpr (h y hy)
  rw [List.length_erase_of_mem hx] at ih
  have := List.length_pos_of_mem hx
  omega
theorem sub_len {n : Int} {a b : List Int} (ha : SetIn n a) (hb : SetIn n b) (h : subB a b = true) (ne : a ≠ b) : a.length < b.length := by
  have hs := subB_iff.mp h
  have hl := nodup_len (asc_nodup ha.asc) hs
  by_cases e : a.length = b.length
  · exact absurd (asc_eq ha.asc hb.asc fun x => ⟨hs x, nodup_all (asc_nodup ha.asc) hs (by omega) x⟩) ne
  · omega
theorem above {n : Int} {ks : List (List Int)} (hn : n ≤ 5) (hs : ∀ o ∈ ks, SetIn n o) : ∀ (m : Nat) (o : List Int), o ∈ ks → 6 - o.length ≤ m → ∃ p ∈ ks, topB ks p = true ∧ subB o p = true
  | 0, o, ho, hm => by
    have := (hs o ho).len hn
    omega
  | m + 1, o, ho, hm => by
    by_cases ht : topB ks o = true
    · exact ⟨o, ho, ht, subB_iff.mpr fun _ h => h⟩
    · have h2 : ∃ p ∈ ks, subB o p = true ∧ o ≠ p := by
        refine Classical.byContradiction fun hno => ht (topB_iff.mpr fun p hp hsub => Classical.byContradiction fun hne => hno ⟨p, hp, hsub, hne⟩)
      obtain ⟨p, hp, h3, h4⟩ := h2
      have hlt := sub_len (hs o ho) (hs p hp) h3 h4
      obtain ⟨q, hq, h5, h6⟩ := above hn hs m p hp (by omega)
      exact ⟨q, hq, h5, subB_iff.mpr fun x hx => subB_iff.mp h6 x (subB_iff.mp h3 x hx)⟩
theorem usort_len {α : Type} {lt : α → α → Bool} : ∀ l : List α, (usort lt l).length ≤ l.length
  | [] => Nat.le_refl _
  | x :: l => by
    have ih := usort_len (lt := lt) l
    have h : ∀ k : List α, (insU lt x k).length ≤ k.length + 1 := fun k => by
      induction k with
      | nil => simp [insU]
      | cons y k ihk =>
        unfold insU
        split
        · simp
        · split
          · simp only [List.length_cons]
            omega
          · simp
    have := h (usort lt l)
    unfold usort
    rw [List.length_cons]
    omega
/-- the greatest of some sets that cover all things -/
theorem great_ok {n : Int} {ks : List (List Int)} (h2 : 2 ≤ n) (h5 : n ≤ 5) (hl : ks.length ≤ 32) (hs : ∀ o ∈ ks, SetIn n o) (hc : ∀ t : Int, 0 ≤ t → t < n → ∃ o ∈ ks, t ∈ o) : FamOk n (greatestIn ks) := by
  have cov : ∀ t : Int, 0 ≤ t → t < n → ∃ o ∈ greatestIn ks, t ∈ o := fun t a b => by
    obtain ⟨o, ho, hto⟩ := hc t a b
    obtain ⟨p, hp, q1, q2⟩ := above h5 hs 6 o ho (by omega)
    exact ⟨p, great_mem.mpr ⟨hp, q1⟩, subB_iff.mp q2 t hto⟩
  refine ⟨h2, h5, ?_, ?_, fun o ho => hs o (great_mem.mp ho).1, usort_lt stoL _, fun o ho p hp hsub => topB_iff.mp (great_mem.mp ho).2 p (great_mem.mp hp).1 hsub, cov⟩
  · obtain ⟨o, ho, _⟩ := cov 0 (by omega) (by omega)
    exact fun z => by
      rw [z] at ho
      cases ho
  · refine Nat.le_trans (usort_len _) (Nat.le_trans (List.length_filter_le _ _) hl)
theorem raw_ok {n : Int} {ks : List (List Int)} (h2 : 2 ≤ n) (h5 : n ≤ 5) (r : Raw n ks) : FamOk n (lawTop ks) := by
  rw [lawTop_eq]
  exact great_ok h2 h5 (by have := r.few; omega) r.sets r.cover
theorem setsD_map (f : List (List Int)) : setsD (f.map dS) = f := by
  unfold setsD
  rw [List.map_map]
  conv => rhs; rw [← List.map_id f]
  refine List.map_congr_left fun o _ => ?_
  show intsD (o.map D.int) = o
  exact intsD_map o
theorem isSet_of {n : Int} {o : List Int} (h : SetIn n o) : isSetD (dS o) n = true := by
  rw [isSetD, Bool.and_eq_true, List.all_eq_true]
  refine ⟨fun d hd => ?_, ?_⟩
  · obtain ⟨i, hi, rfl⟩ := List.mem_map.mp hd
    have := h.low i hi
    rw [wholeD, decide_eq_true (by omega), decide_eq_true (by omega)]
    rfl
  · rw [intsD_map]
    exact decide_eq_true (usort_eq stoI (h.asc.imp fun {x y} z => decide_eq_true z) fun _ => Iff.rfl)
theorem FamOk.great {n : Int} {f : List (List Int)} (h : FamOk n f) : greatestIn f = f := by
  unfold greatestIn
  rw [List.filter_eq_self.mpr fun o ho => topB_iff.mpr fun p hp hs => h.anti o ho p hp hs]
  exact (usort_eq stoL h.asc fun _ => Iff.rfl).symm
theorem FamOk.is {n : Int} {f : List (List Int)} (h : FamOk n f) : isFamD (dFam n f) = true := by
  have e1 : isFam n f = true := by
    rw [isFam, decide_eq_true (usort_eq stoL h.asc fun _ => Iff.rfl), decide_eq_true h.great, Bool.and_self, Bool.true_and, List.all_eq_true]
    intro t ht
    have := List.mem_range.mp ht
    obtain ⟨o, ho, hto⟩ := h.cover (t : Int) (by omega) (by omega)
    exact List.any_eq_true.mpr ⟨o, ho, List.contains_iff_mem.mpr hto⟩
  have e2 : (f.map dS).isEmpty = false := by
    cases f with
    | nil => exact absurd rfl h.ne
    | cons _ _ => rfl
  have e3 : ((f.map dS).all fun x => isSetD x n) = true := by
    rw [List.all_eq_true]
    intro d hd
    obtain ⟨o, ho, rfl⟩ := List.mem_map.mp hd
    exact isSet_of (h.sets o ho)
  show ((decide (2 ≤ n) && decide (n ≤ 5)) && (!(f.map dS).isEmpty && (f.map dS).all fun x => isSetD x n) && isFam n (setsD (f.map dS))) = true
  rw [e2, e3, setsD_map, e1, decide_eq_true h.n2, decide_eq_true h.n5]
  rfl
theorem SetIn.sm {n : Int} {o : List Int} (h : SetIn n o) (hn : n ≤ 5) : Sm 1 (dS o) := .tup (by rw [List.length_map]; have := h.len hn; omega) fun d hd => by
  obtain ⟨i, _, rfl⟩ := List.mem_map.mp hd
  exact .int i
theorem FamOk.sm {n : Int} {f : List (List Int)} (h : FamOk n f) : Sm 3 (dFam n f) := .tup (by show 2 < 64; decide) fun d hd => by
  rcases List.mem_cons.mp hd with rfl | hd
  · exact .int n
  · rw [List.mem_singleton.mp hd]
    exact .tup (by rw [List.length_map]; have := h.few; omega) fun d hd => by
      obtain ⟨o, ho, rfl⟩ := List.mem_map.mp hd
      exact (h.sets o ho).sm h.n5

end G9
namespace G9
open PySem PySem.Spec PyProof.Rows L2 G9S
section
variable {P : Program} {w : World} {K : PySem.W.Frag} {mg : Str → Option Value} {base : Heap}
/-! ### need_family, at a family -/
def R_need_family (ds : List D) (d : D) : Prop := ∃ n f, FamOk n f ∧ ds = [dFam n f] ∧ d = .non
theorem sc_need_family : FnScope ["family"] ["family"] (defScope s_need_family) := ⟨rfl, rfl, rfl, by decide +kernel, rfl, by decide +kernel, by decide +kernel⟩
theorem ok_need_family {f : Addr} {fd : FuncData} (F : Fun K "need_family" "need_family" s_need_family f fd) (F1 : Fn P w K mg base "is_family" 3 (spR K R_is_family)) : FnOk P w K mg base CX0 4 f fd ["family"] (spR K R_need_family) := by
  refine okD F sc_need_family (fun ds d h => by obtain ⟨_, _, _, rfl, _⟩ := h; rfl) fun cdv A outer s H G E σ ds d Q hr hR sh en q => ?_
  obtain ⟨n, f, hf, rfl, rfl⟩ := hR
  refine s_when (b := false) ((t_not (t_val (e_call F1 hr (a_cons (e_v 0) a_nil) ⟨_, .inl ⟨3, by decide, hf.sm⟩, rfl, rfl⟩))).is (by rw [hf.is]; rfl)) same_nil sh en (fun hb => nomatch hb) fun _ G1 H1 f1 en1 => wB_nil (q _ _ _ f1 .non)
/-! ### baskets -/
structure Bsk where
  n : Int
  f : List (List Int)
  rows : List (List Int)
  und : List (List Int)
theorem fr_ : ¬ (("family" : Str) = "rows") := by decide +kernel
theorem fu_ : ¬ (("family" : Str) = "undone") := by decide +kernel
theorem ru_ : ¬ (("rows" : Str) = "undone") := by decide +kernel
theorem ur_ : ¬ (("undone" : Str) = "rows") := by decide +kernel
def bfs (vf vr vu : V) : List (Str × V) := [("family", vf), ("rows", vr), ("undone", vu)]
theorem bfs_made (vf vr vu : V) : putF "undone" vu (putF "rows" vr (putF "family" vf [])) = bfs vf vr vu := by
  show putF "undone" vu (if ("family" : Str) = "rows" then [(("rows" : Str), vr)] else (("family" : Str), vf) :: putF "rows" vr []) = _
  rw [if_neg fr_]
  show (if ("family" : Str) = "undone" then _ else (("family" : Str), vf) :: (if ("rows" : Str) = "undone" then _ else (("rows" : Str), vr) :: putF "undone" vu [])) = _
  rw [if_neg fu_, if_neg ru_]
  rfl
theorem bfs_f (vf vr vu : V) : (bfs vf vr vu).lookup ("family" : Str) = some vf := by rw [← bfs_made, lookup_putF, if_neg fu_, lookup_putF, if_neg fr_, lookup_putF, if_pos rfl]
theorem bfs_r (vf vr vu : V) : (bfs vf vr vu).lookup ("rows" : Str) = some vr := by rw [← bfs_made, lookup_putF, if_neg ru_, lookup_putF, if_pos rfl]
theorem bfs_u (vf vr vu : V) : (bfs vf vr vu).lookup ("undone" : Str) = some vu := by rw [← bfs_made, lookup_putF, if_pos rfl]
theorem bfs_no (vf vr vu : V) {m : Str} (h1 : ¬ m = "undone") (h2 : ¬ m = "rows") (h3 : ¬ m = "family") : (bfs vf vr vu).lookup m = none := by
  rw [← bfs_made, lookup_putF, if_neg h1, lookup_putF, if_neg h2, lookup_putF, if_neg h3]
  rfl
theorem bfs_putr (vf vr vu x : V) : putF "rows" x (bfs vf vr vu) = bfs vf x vu := by
  show (if ("family" : Str) = "rows" then _ else (("family" : Str), vf) :: (if ("rows" : Str) = "rows" then (("rows" : Str), x) :: [(("undone" : Str), vu)] else _)) = _
  rw [if_neg fr_, if_pos rfl]
  rfl
theorem bfs_putu (vf vr vu x : V) : putF "undone" x (bfs vf vr vu) = bfs vf vr x := by
  show (if ("family" : Str) = "undone" then _ else (("family" : Str), vf) :: (if ("rows" : Str) = "undone" then _ else (("rows" : Str), vr) :: (if ("undone" : Str) = "undone" then [(("undone" : Str), x)] else _))) = _
  rw [if_neg fu_, if_neg ru_, if_pos rfl]
  rfl
/-- the object at p, outside of G, is the basket b -/
structure Bk (K : PySem.W.Frag) (C : Addr) (G H : Hp) (p : Addr) (b : Bsk) : Prop where
  out : G p = none
  ex : ∃ dx vf vr vu, H p = some (.ins C dx (bfs vf vr vu)) ∧ Rp K G vf (dFam b.n b.f) ∧ Rp K G vr (.lst (b.rows.map dS)) ∧ Rp K G vu (.lst (b.und.map dS))
/-- it is leant on -/
structure InB (K : PySem.W.Frag) (C : Addr) (G : Hp) (p dx : Addr) (vf vr vu : V) (b : Bsk) : Prop where
  at_ : G p = some (.ins C dx (bfs vf vr vu))
  f : Rp K G vf (dFam b.n b.f)
  r : Rp K G vr (.lst (b.rows.map dS))
  u : Rp K G vu (.lst (b.und.map dS))
theorem InB.up {C p dx : Addr} {G G' : Hp} {vf vr vu : V} {b : Bsk} (h : InB K C G p dx vf vr vu b) (s : Same G G') : InB K C G' p dx vf vr vu b := ⟨s _ _ h.at_, h.f.up s, h.r.up s, h.u.up s⟩
theorem Bk.sh {C p : Addr} {G H : Hp} {b : Bsk} (h : Bk K C G H p b) (s : Same G H) : ∃ dx vf vr vu, Same (upd G p (.ins C dx (bfs vf vr vu))) H ∧ InB K C (upd G p (.ins C dx (bfs vf vr vu))) p dx vf vr vu b := by
  obtain ⟨dx, vf, vr, vu, h1, h2, h3, h4⟩ := h.ex
  have e := Same.new (o := .ins C dx (bfs vf vr vu)) h.out
  exact ⟨dx, vf, vr, vu, same_show s h1, upd_same, h2.up e, h3.up e, h4.up e⟩
theorem InB.bk {C p dx : Addr} {G H : Hp} {vf vr vu : V} {b : Bsk} (h : InB K C G p dx vf vr vu b) (s : Same G H) : Bk K C (hide G p) H p b := by
  have e := Kp.hide h.at_ rfl
  exact ⟨hide_same, dx, vf, vr, vu, s _ _ h.at_, h.f.kp e, h.r.kp e, h.u.kp e⟩
theorem Bk.fr {C p : Addr} {G H G' H' : Hp} {b : Bsk} (h : Bk K C G H p b) (f : Fr G H G' H') : Bk K C G' H' p b := by
  obtain ⟨dx, vf, vr, vu, h1, h2, h3, h4⟩ := h.ex
  obtain ⟨a1, a2⟩ := f.out h.out h1
  exact ⟨a1, dx, vf, vr, vu, a2, h2.up f.g, h3.up f.g, h4.up f.g⟩
theorem Bk.fo {C p q : Addr} {G H G' H' : Hp} {b : Bsk} (h : Bk K C G H p b) (f : Fo q G H G' H') (hq : p ≠ q) : Bk K C G' H' p b := by
  obtain ⟨dx, vf, vr, vu, h1, h2, h3, h4⟩ := h.ex
  obtain ⟨a1, a2⟩ := f.keep hq h.out h1
  exact ⟨a1, dx, vf, vr, vu, a2, h2.up f.g, h3.up f.g, h4.up f.g⟩
theorem hide_upd {G : Hp} {p : Addr} {o : HO} : hide (upd G p o) p = hide G p := by
  funext b
  by_cases hb : b = p
  · rw [hb, hide_same, hide_same]
  · rw [hide_ne hb, hide_ne hb, upd_ne hb]
theorem hide_none {G : Hp} {p : Addr} {o : HO} (h : G p = none) : hide (upd G p o) p = G := by
  funext b
  by_cases hb : b = p
  · rw [hb, hide_same, h]
  · rw [hide_ne hb, upd_ne hb]
theorem Fr.hid {G H G' H' : Hp} {p : Addr} (f : Fr G H G' H') (hp : H p ≠ none) : Fo p (G9.hide G p) H (G9.hide G' p) H' :=
  ⟨fun b o _ e => f.h b o e, fun b o e => by
    obtain ⟨h1, h2⟩ := hide_sub e
    rw [hide_ne h1]
    exact f.g b o h2, same_hide f.s, fun b e1 e2 => by
    by_cases hb : b = p
    · rw [hb, hide_same]
    · rw [hide_ne hb] at e1 ⊢
      exact f.n b e1 e2, (f.o hp).d⟩
theorem same_put {G H : Hp} {p : Addr} {o : HO} (s : Same G H) : Same (upd G p o) (upd H p o) := fun b u e => by
  by_cases hb : b = p
  · subst hb
    rw [upd_same] at e ⊢
    exact e
  · rw [upd_ne hb] at e ⊢
    exact s b u e
/-- what a basket tells -/
def spB (K : PySem.W.Frag) (C : Addr) (R : Bsk → D → Prop) : Sp := fun vs H Q _ => ∃ (p : Addr) (G : Hp) (b : Bsk) (d : D), vs = [.ref p] ∧ Same G H ∧ Bk K C G H p b ∧ R b d ∧ ∀ v G' H', Fr G H G' H' → Rp K G' v d → Q v H'
structure BTx (K : PySem.W.Frag) (mg : Str → Option Value) (C : Addr) : Prop where
  cl : Cls K C
  nF : NoAttr K C "family"
  nR : NoAttr K C "rows"
  nU : NoAttr K C "undone"
  mgC : mg "Basket" = some (.ref C)
theorem e_bm {X : Cx} {C : Addr} {H0 : Hp} {ρ : Ro} {o : Expr} {p dx : Addr} {vf vr vu : V} {b : Bsk} {d : D} {m : Str} {k : Nat} {R : Bsk → D → Prop} {apos pos : Pos} {pl : Sem Bool} (F : FnM X.prog X.w X.K X.mg X.base C m k (spB X.K C R)) (h : Ev X H0 ρ o (.ref p)) (I : InB X.K C H0 p dx vf vr vu b) (c : Cls X.K C) (hr : Room k X.A) (hR : R b d)
    (hno : (¬ m = "undone") ∧ (¬ m = "rows") ∧ ¬ m = "family" := by decide +kernel)
    (ht : eval (.Call (.Attribute o m apos) [] [] pos) X.env = (do
      let ov ← eval o X.env
      standAt apos.atName
      let (f, first) ← holding [ov] (getMethod ov m pl)
      callWith pos f first (backTo pos (starEach [] X.env)) (backToKw pos (keywordEach [] X.env))) := by rfl) : Ev X H0 ρ (.Call (.Attribute o m apos) [] [] pos) d := fun σ G H sg sh en Q q => by
  refine w_meth0 (pl := pl) F c hr (h σ G H sg sh en _ fun x G1 H1 f1 r1 => ?_) ht
  obtain rfl := r1.ref_of
  have I1 := I.up (sg.trans f1.g)
  refine ⟨p, dx, _, rfl, f1.s _ _ I1.at_, bfs_no _ _ _ hno.1 hno.2.1 hno.2.2, p, hide G1 p, b, d, rfl, same_hide f1.s, I1.bk f1.s, hR, fun v G2 H2 f2 r2 => ?_⟩
  have f3 := f2.show I1.at_ (f1.s _ _ I1.at_)
  exact q v _ H2 (f1.trans f3) (r2.up (Same.new (f2.n p hide_same (by rw [f1.s _ _ I1.at_]; exact fun z => nomatch z))))
/-! ### picked -/
def R_picked (b : Bsk) (d : D) : Prop := ∃ r, b.rows.getLast? = some r ∧ d = dS r
theorem sc_picked : FnScope ["self"] ["self"] (defScope s_Basket_picked) := ⟨rfl, rfl, rfl, by decide +kernel, rfl, by decide +kernel, by decide +kernel⟩
theorem getLast_map {r : List Int} {l : List (List Int)} (h : l.getLast? = some r) : (l.map dS).getLast? = some (dS r) := by
  rw [List.getLast?_map, h]
  rfl
theorem ok_picked {f C : Addr} {fd : FuncData} (F : Fun K "picked" "Basket.picked" s_Basket_picked f fd) (T : BTx K mg C) : FnOk P w K mg base CX0 1 f fd ["self"] (spB K C R_picked) := by
  refine okS F sc_picked (fun vs H Q E h => by obtain ⟨p, G, b, d, rfl, _⟩ := h; rfl) fun cdv A outer s H E vs Q hr h => ?_
  obtain ⟨p, G, b, d, rfl, sh, bk, ⟨r, hr1, rfl⟩, q⟩ := h
  obtain ⟨dx, vf, vr, vu, s1, I⟩ := bk.sh sh
  refine s_ret (e_last (e_fld (e_v 0) I.at_ T.cl T.nR (bfs_r _ _ _) I.r) (getLast_map hr1)) (Same.refl _) s1 (en_start (N := ["self"]) (ds := [.ref p]) (.cons (.ref p) .nil)) fun v G1 H1 f1 r1 => ?_
  have I1 := I.up f1.g
  exact q v _ H1 (f1.hide bk.out) (r1.kp (Kp.hide I1.at_ rfl))
/-! ### free -/
def freeN (n : Int) (f : List (List Int)) (now : List Int) : List Nat := ((List.range n.toNat).filter fun (t : Nat) => !now.contains (t : Int)).filter fun (t : Nat) => mayB f (isort ltI (now ++ [(t : Int)]))
def freeOf (n : Int) (f : List (List Int)) (now : List Int) : List Int := (freeN n f now).map fun (t : Nat) => (t : Int)
structure BOk (b : Bsk) : Prop where
  fam : FamOk b.n b.f
  sets : ∀ o ∈ b.rows, SetIn b.n o
  len : b.rows.length ≤ 100
  len2 : b.und.length ≤ 100
def R_free (b : Bsk) (d : D) : Prop := ∃ r, BOk b ∧ b.rows.getLast? = some r ∧ d = dS (freeOf b.n b.f r)
theorem sc_free : FnScope ["self", "now", "rest", "thing"] ["self"] (defScope s_Basket_free) := ⟨rfl, rfl, rfl, by decide +kernel, rfl, by decide +kernel, by decide +kernel⟩
theorem ok_free {f C : Addr} {fd : FuncData} (F : Fun K "free" "Basket.free" s_Basket_free f fd) (T : BTx K mg C) (B : Blt mg) (F1 : FnM P w K mg base C "picked" 1 (spB K C R_picked)) (F2 : Fn P w K mg base "may_be" 2 (spR K R_may_be)) : FnOk P w K mg base CX0 3 f fd ["self"] (spB K C R_free) := by
  refine okS F sc_free (fun vs H Q E h => by obtain ⟨p, G, b, d, rfl, _⟩ := h; rfl) fun cdv A outer s H E vs Q hr h => ?_
  obtain ⟨p, G, b, d, rfl, sh, bk, ⟨r, ok, hr1, rfl⟩, q⟩ := h
  have hN := sc_free.nd
  obtain ⟨dx, vf, vr, vu, s1, I⟩ := bk.sh sh
  have hlen := (ok.sets r (List.mem_of_getLast? hr1)).len ok.fam.n5
  have hlf := ok.fam.few
  have hn5 := ok.fam.n5
  have hn2 := ok.fam.n2
  refine s_asg 1 (e_bm F1 (e_v 0) I T.cl (hr.mono (by decide)) ⟨r, hr1, rfl⟩) (Same.refl _) s1 (en_start (N := ["self", "now", "rest", "thing"]) (ds := [.ref p]) (.cons (.ref p) .nil)) fun σ1 G1 H1 f1 en1 => ?_
  refine s_asgV 2 3 (c_fil (fun t : Nat => D.int (t : Int)) (List.range b.n.toNat) (fun t => !r.contains (t : Int)) 3 (i_range1 B.range_ (e_at (e_fld (e_v 0) I.at_ T.cl T.nF (bfs_f _ _ _) I.f) rfl) (by omega)) (by rw [List.length_range]; omega) fun t ht _ _ _ _ _ => t_cmp op_notIn_seq (e_v 3) (e_v 1) rd_ninT) f1.g f1.s en1 fun σ2 G2 H2 f2 en2 => ?_
  have f12 := f1.trans f2
  refine s_ret (d := dS (freeOf b.n b.f r)) ((e_tuple B (l_lc 3 (c_fil (fun t : Nat => D.int (t : Int)) _ (fun t => mayB b.f (isort ltI (r ++ [(t : Int)]))) 3 (i_lst (e_v 2)) ?_ fun t ht _ _ _ _ _ => t_val (e_call F2 hr (a_cons (e_fld (e_v 0) I.at_ T.cl T.nF (bfs_f _ _ _) I.f) (a_cons (e_tuple B (l_sortTI (ns := r ++ [(t : Int)]) B.sorted_ ((e_op op_catA (e_v 1) (e_tup (a_cons (e_v 3) a_nil) (by show 1 ≤ 100000; decide)) (rd_catT ?_)).is (by simp [dS]))).ev) a_nil)) ⟨b.n, b.f, _, by omega, ?_, rfl, rfl⟩))).ev).is ?_) f12.g f12.s en2 fun v G3 H3 f3 r3 => ?_
  · exact Nat.le_trans (List.length_filter_le _ _) (by rw [List.length_range]; omega)
  · rw [List.length_map]
    show r.length + 1 ≤ 100000
    omega
  · unfold freeOf freeN dS
    rw [List.map_map]
    rfl
  · have f13 := f12.trans f3
    have I1 := I.up f13.g
    exact q v _ H3 (f13.hide bk.out) (r3.kp (Kp.hide I1.at_ rfl))
  · rw [(isort_perm _).length_eq, List.length_append]
    show r.length + 1 ≤ 1000
    omega
/-! ### take, undo, redo -/
def addTo (r : List Int) (t : Int) : List Int := isort ltI (r ++ [t])
def spTake (K : PySem.W.Frag) (C : Addr) : Sp := fun vs H Q _ => ∃ (p : Addr) (t : Int) (G : Hp) (b : Bsk) (r : List Int), vs = [.ref p, .int t] ∧ Same G H ∧ Bk K C G H p b ∧ BOk b ∧ b.rows.length < 100 ∧ b.rows.getLast? = some r ∧ t ∈ freeOf b.n b.f r ∧
  ∀ v G' H', Fo p G H G' H' → Bk K C G' H' p { b with rows := b.rows ++ [addTo r t], und := [] } → Rp K G' v (.bl (decide (freeOf b.n b.f (addTo r t) = []))) → Q v H'
theorem sc_take : FnScope ["self", "thing"] ["self", "thing"] (defScope s_Basket_take) := ⟨rfl, rfl, rfl, by decide +kernel, rfl, by decide +kernel, by decide +kernel⟩
theorem free_mem {n : Int} {f : List (List Int)} {r : List Int} {t : Int} (h : t ∈ freeOf n f r) : 0 ≤ t ∧ t < n ∧ t ∉ r ∧ mayB f (addTo r t) = true := by
  obtain ⟨k, hk, rfl⟩ := List.mem_map.mp h
  obtain ⟨h1, h2⟩ := List.mem_filter.mp hk
  obtain ⟨h3, h4⟩ := List.mem_filter.mp h1
  have := List.mem_range.mp h3
  refine ⟨by omega, by omega, fun z => ?_, h2⟩
  simp [z] at h4
theorem asc_isort {r : List Int} {t : Int} (h : r.Pairwise (· < ·)) (ht : t ∉ r) : (addTo r t).Pairwise (· < ·) := by
  have h1 : (addTo r t).Pairwise fun a b => ltI b a = false := isort_le stoI _
  have h2 : (addTo r t).Nodup := by
    refine (isort_perm _).nodup_iff.mpr ?_
    refine List.nodup_append.mpr ⟨h.imp fun {x y} z e => by omega, by simp, fun a ha b hb e => ?_⟩
    rw [List.mem_singleton.mp hb] at e
    exact ht (e ▸ ha)
  exact (h1.and h2).imp fun {a b} ⟨x, y⟩ => by
    have := of_decide_eq_false x
    omega
theorem addTo_in {n : Int} {f : List (List Int)} {r : List Int} {t : Int} (h : SetIn n r) (ht : t ∈ freeOf n f r) : SetIn n (addTo r t) := by
  obtain ⟨h1, h2, h3, _⟩ := free_mem ht
  refine ⟨asc_isort h.asc h3, fun x hx => ?_⟩
  rcases List.mem_append.mp ((isort_perm _).mem_iff.mp hx) with q | q
  · exact h.low x q
  · rw [List.mem_singleton.mp q]
    exact ⟨h1, h2⟩
theorem BOk.take {b : Bsk} {r : List Int} {t : Int} (ok : BOk b) (hl : b.rows.length < 100) (h : b.rows.getLast? = some r) (ht : t ∈ freeOf b.n b.f r) : BOk { b with rows := b.rows ++ [addTo r t], und := [] } :=
  ⟨ok.fam, fun o ho => by
    rcases List.mem_append.mp ho with q | q
    · exact ok.sets o q
    · rw [List.mem_singleton.mp q]
      exact addTo_in (ok.sets r (List.mem_of_getLast? h)) ht, by rw [List.length_append]; exact hl, by show 0 ≤ 100; decide⟩
theorem InB.rows {C p dx : Addr} {G : Hp} {vf vr vu v : V} {b : Bsk} {rs : List (List Int)} (I : InB K C G p dx vf vr vu b) (r : Rp K G v (.lst (rs.map dS))) : InB K C (upd G p (.ins C dx (bfs vf v vu))) p dx vf v vu { b with rows := rs } := by
  have e := Kp.put (u := .ins C dx (bfs vf v vu)) I.at_ rfl
  exact ⟨upd_same, I.f.kp e, r.kp e, I.u.kp e⟩
theorem InB.undone {C p dx : Addr} {G : Hp} {vf vr vu v : V} {b : Bsk} {rs : List (List Int)} (I : InB K C G p dx vf vr vu b) (r : Rp K G v (.lst (rs.map dS))) : InB K C (upd G p (.ins C dx (bfs vf vr v))) p dx vf vr v { b with und := rs } := by
  have e := Kp.put (u := .ins C dx (bfs vf vr v)) I.at_ rfl
  exact ⟨upd_same, I.f.kp e, I.r.kp e, r.kp e⟩
theorem InB.no {C p dx : Addr} {G H : Hp} {vf vr vu : V} {b : Bsk} (I : InB K C G p dx vf vr vu b) (s : Same G H) : H p ≠ none := by
  rw [s _ _ I.at_]
  exact fun z => nomatch z
theorem ok_take {f C : Addr} {fd : FuncData} (F : Fun K "take" "Basket.take" s_Basket_take f fd) (T : BTx K mg C) (B : Blt mg) (F0 : Fn P w K mg base "is_whole" 1 (spR K R_is_whole)) (F1 : FnM P w K mg base C "picked" 1 (spB K C R_picked)) (F2 : FnM P w K mg base C "free" 3 (spB K C R_free)) : FnOk P w K mg base CX0 4 f fd ["self", "thing"] (spTake K C) := by
  refine okS F sc_take (fun vs H Q E h => by obtain ⟨p, t, G, b, r, rfl, _⟩ := h; rfl) fun cdv A outer s H E vs Q hr h => ?_
  obtain ⟨p, t, G, b, r, rfl, sh, bk, ok, hl, hr1, ht, q⟩ := h
  obtain ⟨dx, vf, vr, vu, s1, I⟩ := bk.sh sh
  obtain ⟨t0, tn, tr, tm⟩ := free_mem ht
  have hlen := (ok.sets r (List.mem_of_getLast? hr1)).len ok.fam.n5
  have en0 : En K (upd G p (.ins C dx (bfs vf vr vu))) (L2.start ["self", "thing"] [.ref p, .int t]) [some (.ref p), some (.int t)] := en_start (N := ["self", "thing"]) (ds := [.ref p, .int t]) (.cons (.ref p) (.cons (.int t) .nil))
  refine s_when (b := false) ((t_or2 (t_not (t_val (e_call F0 (hr.mono (by decide)) (a_cons (e_v 1) (a_cons e_int (a_cons (e_op op_sub (e_at (e_fld (e_v 0) I.at_ T.cl T.nF (bfs_f _ _ _) I.f) rfl) e_int rd_i) a_nil))) ⟨.int t, 0, b.n - 1, (fun z => nomatch z), rfl, rfl⟩))) fun _ => t_cmp op_notIn_seq (e_v 1) (e_bm F2 (e_v 0) I T.cl hr ⟨r, ok, hr1, rfl⟩) rd_ninT).is ?_) (Same.refl _) s1 en0 (fun hb => nomatch hb) fun _ G1 H1 f1 en1 => ?_
  · have h1 : wholeD (.int t) 0 (b.n - 1) = true := by
      unfold wholeD
      simp
      omega
    rw [h1, List.contains_iff_mem.mpr ht]
    rfl
  · have I1 := I.up f1.g
    have m1 : Fo p G H (hide G1 p) H1 := by
      have := f1.hid (p := p) (I.no s1)
      rwa [hide_none bk.out] at this
    refine s_fld (e := _) (d := .lst ((b.rows ++ [addTo r t]).map dS)) ((l_op op_cat (e_fld (e_v 0) I1.at_ T.cl T.nR (bfs_r _ _ _) I1.r) (l_lst (a_cons (e_tuple B (l_sortTI (ns := r ++ [t]) B.sorted_ ((e_op op_catA (e_bm F1 (e_v 0) I1 T.cl (hr.mono (by decide)) ⟨r, hr1, rfl⟩) (e_tup (a_cons (e_v 1) a_nil) (by show 1 ≤ 100000; decide)) (rd_catT ?_)).is (by simp [dS]))).ev) a_nil) (by show 1 ≤ 100000; decide)).ev (rd_cat ?_)).ev.is (by simp [addTo])) (e_v 0) (Same.refl _) f1.s en1 I1.at_ T.cl T.nR (by show 3 < 1000; decide) fun v2 G2 H2 f2 r2 => ?_
    · rw [List.length_map]
      show r.length + 1 ≤ 100000
      omega
    · rw [List.length_map]
      show b.rows.length + 1 ≤ 100000
      omega
    · rw [bfs_putr]
      have I2 := (I1.up f2.g).rows r2
      have s2 := same_put (p := p) (o := .ins C dx (bfs vf v2 vu)) f2.s
      have en2 := (en1.up f2.g).kp (Kp.put (u := .ins C dx (bfs vf v2 vu)) (I1.up f2.g).at_ rfl)
      have m2 : Fo p G H (hide (upd G2 p (.ins C dx (bfs vf v2 vu))) p) (upd H2 p (.ins C dx (bfs vf v2 vu))) := by
        rw [hide_upd]
        exact (m1.trans (f2.hid (I1.no f1.s))).mut hide_same
      refine s_fld (d := .lst (([] : List (List Int)).map dS)) ((l_lst a_nil).ev) (e_v 0) (Same.refl _) s2 en2 I2.at_ T.cl T.nU (by show 3 < 1000; decide) fun v3 G3 H3 f3 r3 => ?_
      rw [bfs_putu]
      have I3 := (I2.up f3.g).undone r3
      have s3 := same_put (p := p) (o := .ins C dx (bfs vf v2 v3)) f3.s
      have en3 := (en2.up f3.g).kp (Kp.put (u := .ins C dx (bfs vf v2 v3)) (I2.up f3.g).at_ rfl)
      have m3 : Fo p G H (hide (upd G3 p (.ins C dx (bfs vf v2 v3))) p) (upd H3 p (.ins C dx (bfs vf v2 v3))) := by
        rw [hide_upd]
        exact (m2.trans (f3.hid (I2.no s2))).mut hide_same
      refine s_ret ((e_eqD hr.units (e_bm F2 (e_v 0) I3 T.cl hr ⟨addTo r t, ok.take hl hr1 ht, by simp, rfl⟩) (e_tup (ds := ([] : List Int).map D.int) a_nil (by show 0 ≤ 100000; decide)) (sh_dS (n := 0) _) (sh_dS (n := 0) [])).is (by rw [eqv_dS])) (Same.refl _) s3 en3 fun v4 G4 H4 f4 r4 => ?_
      have I4 := I3.up f4.g
      exact q v4 (hide G4 p) H4 (m3.trans (f4.hid (I3.no s3))) (I4.bk f4.s) (r4.kp (Kp.hide I4.at_ rfl))
def spUndo (K : PySem.W.Frag) (C : Addr) : Sp := fun vs H Q _ => ∃ (p : Addr) (G : Hp) (b : Bsk) (rs : List (List Int)) (z r : List Int), vs = [.ref p] ∧ Same G H ∧ Bk K C G H p b ∧ BOk b ∧ b.und.length < 100 ∧ b.rows = rs ++ [z] ∧ rs.getLast? = some r ∧
  ∀ v G' H', Fo p G H G' H' → Bk K C G' H' p { b with rows := rs, und := b.und ++ [z] } → Rp K G' v (dS r) → Q v H'
theorem sc_undo : FnScope ["self"] ["self"] (defScope s_Basket_undo) := ⟨rfl, rfl, rfl, by decide +kernel, rfl, by decide +kernel, by decide +kernel⟩
theorem map_app {rs : List (List Int)} {z : List Int} : (rs ++ [z]).map dS = rs.map dS ++ [dS z] := by rw [List.map_append]; rfl
theorem ok_undo {f C : Addr} {fd : FuncData} (F : Fun K "undo" "Basket.undo" s_Basket_undo f fd) (T : BTx K mg C) (B : Blt mg) (F1 : FnM P w K mg base C "picked" 1 (spB K C R_picked)) : FnOk P w K mg base CX0 2 f fd ["self"] (spUndo K C) := by
  refine okS F sc_undo (fun vs H Q E h => by obtain ⟨p, G, b, rs, z, r, rfl, _⟩ := h; rfl) fun cdv A outer s H E vs Q hr h => ?_
  obtain ⟨p, G, b, rs, z, r, rfl, sh, bk, ok, hl, hrs, hr1, q⟩ := h
  obtain ⟨dx, vf, vr, vu, s1, I⟩ := bk.sh sh
  have en0 : En K (upd G p (.ins C dx (bfs vf vr vu))) (L2.start ["self"] [.ref p]) [some (.ref p)] := en_start (N := ["self"]) (ds := [.ref p]) (.cons (.ref p) .nil)
  have hlast : b.rows.getLast? = some z := by rw [hrs]; simp
  have hlen : ((b.rows.map dS).length : Int) ≠ 1 := by
    rw [List.length_map, hrs, List.length_append]
    have : rs ≠ [] := fun e => by rw [e] at hr1; cases hr1
    have := List.length_pos_iff.mpr this
    simp
    omega
  refine s_when (b := false) ((t_cmp op_eq (e_lenL B (e_fld (e_v 0) I.at_ T.cl T.nR (bfs_r _ _ _) I.r)) e_int rd_eqI).is (decide_eq_false hlen)) (Same.refl _) s1 en0 (fun hb => nomatch hb) fun _ G1 H1 f1 en1 => ?_
  have I1 := I.up f1.g
  have m1 : Fo p G H (hide G1 p) H1 := by
    have := f1.hid (p := p) (I.no s1)
    rwa [hide_none bk.out] at this
  refine s_fld (d := .lst ((b.und ++ [z]).map dS)) ((l_op op_cat (e_fld (e_v 0) I1.at_ T.cl T.nU (bfs_u _ _ _) I1.u) (l_lst (a_cons (e_last (e_fld (e_v 0) I1.at_ T.cl T.nR (bfs_r _ _ _) I1.r) (getLast_map hlast)) a_nil) (by show 1 ≤ 100000; decide)).ev (rd_cat ?_)).ev.is (by rw [map_app])) (e_v 0) (Same.refl _) f1.s en1 I1.at_ T.cl T.nU (by show 3 < 1000; decide) fun v2 G2 H2 f2 r2 => ?_
  · rw [List.length_map]
    show b.und.length + 1 ≤ 100000
    omega
  · rw [bfs_putu]
    have I2 := (I1.up f2.g).undone r2
    have s2 := same_put (p := p) (o := .ins C dx (bfs vf vr v2)) f2.s
    have en2 := (en1.up f2.g).kp (Kp.put (u := .ins C dx (bfs vf vr v2)) (I1.up f2.g).at_ rfl)
    have m2 : Fo p G H (hide (upd G2 p (.ins C dx (bfs vf vr v2))) p) (upd H2 p (.ins C dx (bfs vf vr v2))) := by
      rw [hide_upd]
      exact (m1.trans (f2.hid (I1.no f1.s))).mut hide_same
    refine s_fld (d := .lst (rs.map dS)) ((l_init (e_fld (e_v 0) I2.at_ T.cl T.nR (bfs_r _ _ _) I2.r)).ev.is (by show D.lst (b.rows.map dS).dropLast = _; rw [hrs, map_app, List.dropLast_concat])) (e_v 0) (Same.refl _) s2 en2 I2.at_ T.cl T.nR (by show 3 < 1000; decide) fun v3 G3 H3 f3 r3 => ?_
    rw [bfs_putr]
    have I3 := (I2.up f3.g).rows r3
    have s3 := same_put (p := p) (o := .ins C dx (bfs vf v3 v2)) f3.s
    have en3 := (en2.up f3.g).kp (Kp.put (u := .ins C dx (bfs vf v3 v2)) (I2.up f3.g).at_ rfl)
    have m3 : Fo p G H (hide (upd G3 p (.ins C dx (bfs vf v3 v2))) p) (upd H3 p (.ins C dx (bfs vf v3 v2))) := by
      rw [hide_upd]
      exact (m2.trans (f3.hid (I2.no s2))).mut hide_same
    refine s_ret (e_bm F1 (e_v 0) I3 T.cl hr ⟨r, hr1, rfl⟩) (Same.refl _) s3 en3 fun v4 G4 H4 f4 r4 => ?_
    have I4 := I3.up f4.g
    exact q v4 (hide G4 p) H4 (m3.trans (f4.hid (I3.no s3))) (I4.bk f4.s) (r4.kp (Kp.hide I4.at_ rfl))
def spRedo (K : PySem.W.Frag) (C : Addr) : Sp := fun vs H Q _ => ∃ (p : Addr) (G : Hp) (b : Bsk) (us : List (List Int)) (z : List Int), vs = [.ref p] ∧ Same G H ∧ Bk K C G H p b ∧ BOk b ∧ b.rows.length < 100 ∧ b.und = us ++ [z] ∧
  ∀ v G' H', Fo p G H G' H' → Bk K C G' H' p { b with rows := b.rows ++ [z], und := us } → Rp K G' v (dS z) → Q v H'
theorem sc_redo : FnScope ["self"] ["self"] (defScope s_Basket_redo) := ⟨rfl, rfl, rfl, by decide +kernel, rfl, by decide +kernel, by decide +kernel⟩
theorem ok_redo {f C : Addr} {fd : FuncData} (F : Fun K "redo" "Basket.redo" s_Basket_redo f fd) (T : BTx K mg C) (B : Blt mg) (F1 : FnM P w K mg base C "picked" 1 (spB K C R_picked)) : FnOk P w K mg base CX0 2 f fd ["self"] (spRedo K C) := by
  refine okS F sc_redo (fun vs H Q E h => by obtain ⟨p, G, b, us, z, rfl, _⟩ := h; rfl) fun cdv A outer s H E vs Q hr h => ?_
  obtain ⟨p, G, b, us, z, rfl, sh, bk, ok, hl, hus, q⟩ := h
  obtain ⟨dx, vf, vr, vu, s1, I⟩ := bk.sh sh
  have en0 : En K (upd G p (.ins C dx (bfs vf vr vu))) (L2.start ["self"] [.ref p]) [some (.ref p)] := en_start (N := ["self"]) (ds := [.ref p]) (.cons (.ref p) .nil)
  have hlast : b.und.getLast? = some z := by rw [hus]; simp
  refine s_when (b := false) ((t_eqD hr.units (e_fld (e_v 0) I.at_ T.cl T.nU (bfs_u _ _ _) I.u) ((l_lst a_nil).ev.is (d' := .lst (([] : List (List Int)).map dS)) rfl) (sh_lF (n := 0) _) (sh_lF (n := 0) [])).is (by rw [eqv_lF, hus]; simp)) (Same.refl _) s1 en0 (fun hb => nomatch hb) fun _ G1 H1 f1 en1 => ?_
  have I1 := I.up f1.g
  have m1 : Fo p G H (hide G1 p) H1 := by
    have := f1.hid (p := p) (I.no s1)
    rwa [hide_none bk.out] at this
  refine s_fld (d := .lst ((b.rows ++ [z]).map dS)) ((l_op op_cat (e_fld (e_v 0) I1.at_ T.cl T.nR (bfs_r _ _ _) I1.r) (l_lst (a_cons (e_last (e_fld (e_v 0) I1.at_ T.cl T.nU (bfs_u _ _ _) I1.u) (getLast_map hlast)) a_nil) (by show 1 ≤ 100000; decide)).ev (rd_cat ?_)).ev.is (by rw [map_app])) (e_v 0) (Same.refl _) f1.s en1 I1.at_ T.cl T.nR (by show 3 < 1000; decide) fun v2 G2 H2 f2 r2 => ?_
  · rw [List.length_map]
    show b.rows.length + 1 ≤ 100000
    omega
  · rw [bfs_putr]
    have I2 := (I1.up f2.g).rows r2
    have s2 := same_put (p := p) (o := .ins C dx (bfs vf v2 vu)) f2.s
    have en2 := (en1.up f2.g).kp (Kp.put (u := .ins C dx (bfs vf v2 vu)) (I1.up f2.g).at_ rfl)
    have m2 : Fo p G H (hide (upd G2 p (.ins C dx (bfs vf v2 vu))) p) (upd H2 p (.ins C dx (bfs vf v2 vu))) := by
      rw [hide_upd]
      exact (m1.trans (f2.hid (I1.no f1.s))).mut hide_same
    refine s_fld (d := .lst (us.map dS)) ((l_init (e_fld (e_v 0) I2.at_ T.cl T.nU (bfs_u _ _ _) I2.u)).ev.is (by show D.lst (b.und.map dS).dropLast = _; rw [hus, map_app, List.dropLast_concat])) (e_v 0) (Same.refl _) s2 en2 I2.at_ T.cl T.nU (by show 3 < 1000; decide) fun v3 G3 H3 f3 r3 => ?_
    rw [bfs_putu]
    have I3 := (I2.up f3.g).undone r3
    have s3 := same_put (p := p) (o := .ins C dx (bfs vf v2 v3)) f3.s
    have en3 := (en2.up f3.g).kp (Kp.put (u := .ins C dx (bfs vf v2 v3)) (I2.up f3.g).at_ rfl)
    have m3 : Fo p G H (hide (upd G3 p (.ins C dx (bfs vf v2 v3))) p) (upd H3 p (.ins C dx (bfs vf v2 v3))) := by
      rw [hide_upd]
      exact (m2.trans (f3.hid (I2.no s2))).mut hide_same
    refine s_ret (e_bm F1 (e_v 0) I3 T.cl hr ⟨z, by simp, rfl⟩) (Same.refl _) s3 en3 fun v4 G4 H4 f4 r4 => ?_
    have I4 := I3.up f4.g
    exact q v4 (hide G4 p) H4 (m3.trans (f4.hid (I3.no s3))) (I4.bk f4.s) (r4.kp (Kp.hide I4.at_ rfl))
/-! ### __init__ -/
def spInit (K : PySem.W.Frag) (C : Addr) : Sp := fun vs H Q _ => ∃ (p dx : Addr) (vf : V) (G : Hp) (n : Int) (f : List (List Int)), vs = [.ref p, vf] ∧ Same G H ∧ G p = none ∧ H p = some (.ins C dx []) ∧ Rp K G vf (dFam n f) ∧ FamOk n f ∧
  ∀ G' H', Fo p G H G' H' → Bk K C G' H' p ⟨n, f, [[]], []⟩ → Q .non H'
theorem sc_init : FnScope ["self", "family"] ["self", "family"] (defScope s_Basket_init) := ⟨rfl, rfl, rfl, by decide +kernel, rfl, by decide +kernel, by decide +kernel⟩
theorem ok_init {f C : Addr} {fd : FuncData} (F : Fun K "__init__" "Basket.__init__" s_Basket_init f fd) (T : BTx K mg C) (F1 : Fn P w K mg base "need_family" 4 (spR K R_need_family)) : FnOk P w K mg base CX0 5 f fd ["self", "family"] (spInit K C) := by
  refine okS F sc_init (fun vs H Q E h => by obtain ⟨p, dx, vf, G, n, f, rfl, _⟩ := h; rfl) fun cdv A outer s H E vs Q hr h => ?_
  obtain ⟨p, dx, vf, G, n, f, rfl, sh, gp, hp, rf, ok, q⟩ := h
  have s1 := same_show sh hp
  have e1 := Same.new (o := .ins C dx []) gp
  have en0 : En K (upd G p (.ins C dx [])) (L2.start ["self", "family"] [.ref p, vf]) [some (.ref p), some (dFam n f)] := en_start (N := ["self", "family"]) (ds := [.ref p, dFam n f]) (.cons (.ref p) (.cons (rf.up e1) .nil))
  refine s_expr (e_call F1 hr (a_cons (e_v 1) a_nil) ⟨n, f, ok, rfl, rfl⟩) (Same.refl _) s1 en0 fun G1 H1 f1 en1 => ?_
  have g1 : G1 p = some (.ins C dx []) := f1.g _ _ upd_same
  have nn : ∀ {H : Hp} {o : HO}, H p = some o → H p ≠ none := fun e z => by
    rw [e] at z
    cases z
  have m1 : Fo p G H (hide G1 p) H1 := by
    have := f1.hid (p := p) (nn hp)
    rwa [hide_none gp] at this
  refine s_fld (e_v 1) (e_v 0) (Same.refl _) f1.s en1 g1 T.cl T.nF (by show 0 < 1000; decide) fun v2 G2 H2 f2 r2 => ?_
  have g2 : G2 p = some (.ins C dx []) := f2.g _ _ g1
  have k2 := Kp.put (u := .ins C dx (putF "family" v2 [])) g2 rfl
  have s2 := same_put (p := p) (o := .ins C dx (putF "family" v2 [])) f2.s
  have en2 := (en1.up f2.g).kp k2
  have m2 : Fo p G H (hide (upd G2 p (.ins C dx (putF "family" v2 []))) p) (upd H2 p (.ins C dx (putF "family" v2 []))) := by
    rw [hide_upd]
    exact (m1.trans (f2.hid (nn (f1.s _ _ g1)))).mut hide_same
  refine s_fld (d := .lst (([[]] : List (List Int)).map dS)) (l_lst (a_cons (e_tup a_nil (by show 0 ≤ 100000; decide)) a_nil)).ev (e_v 0) (Same.refl _) s2 en2 upd_same T.cl T.nR (by show 1 < 1000; decide) fun v3 G3 H3 f3 r3 => ?_
  have g3 : G3 p = some (.ins C dx (putF "family" v2 [])) := f3.g _ _ upd_same
  have k3 := Kp.put (u := .ins C dx (putF "rows" v3 (putF "family" v2 []))) g3 rfl
  have s3 := same_put (p := p) (o := .ins C dx (putF "rows" v3 (putF "family" v2 []))) f3.s
  have en3 := (en2.up f3.g).kp k3
  have m3 : Fo p G H (hide (upd G3 p (.ins C dx (putF "rows" v3 (putF "family" v2 [])))) p) (upd H3 p (.ins C dx (putF "rows" v3 (putF "family" v2 [])))) := by
    rw [hide_upd]
    exact (m2.trans (f3.hid (nn (s2 _ _ upd_same)))).mut hide_same
  refine s_fld (d := .lst (([] : List (List Int)).map dS)) (l_lst a_nil).ev (e_v 0) (Same.refl _) s3 en3 upd_same T.cl T.nU (by rw [show putF "rows" v3 (putF "family" v2 []) = [(("family" : Str), v2), ("rows", v3)] from if_neg fr_]; show 2 < 1000; decide) fun v4 G4 H4 f4 r4 => ?_
  have g4 : G4 p = some (.ins C dx (putF "rows" v3 (putF "family" v2 []))) := f4.g _ _ upd_same
  have k4 := Kp.put (u := .ins C dx (bfs v2 v3 v4)) g4 rfl
  rw [bfs_made]
  have I : InB K C (upd G4 p (.ins C dx (bfs v2 v3 v4))) p dx v2 v3 v4 ⟨n, f, [[]], []⟩ := ⟨upd_same, ((((r2.kp k2).up f3.g).kp k3).up f4.g).kp k4, ((r3.kp k3).up f4.g).kp k4, r4.kp k4⟩
  refine wB_nil (q (hide (upd G4 p (.ins C dx (bfs v2 v3 v4))) p) _ ?_ (I.bk (same_put f4.s)))
  rw [hide_upd]
  exact (m3.trans (f4.hid (nn (s3 _ _ upd_same)))).mut hide_same
/-! ### == -/
structure BTy (K : PySem.W.Frag) (C : Addr) : Prop where
  ha : PySem.W.findIn K (.ref C) "__class__" = some (some (.builtin "object.__class__"))
  hn : PySem.W.specialIn K (.builtin "object.__class__") "__get__" = some (some (.builtin "getset_descriptor.__get__"))
  htk : PySem.W.takesIn K (.builtin "object.__class__") = some true
  hm : PySem.W.mroIn K C (.type "object") = some true
  kit : PySem.W.kitOne K (.ref C) (.ref C) = some true
def eqB (a b : Bsk) : Bool := (decide (a.n = b.n) && decide (a.f = b.f)) && decide (a.rows = b.rows)
def spEqB (K : PySem.W.Frag) (C : Addr) : Sp := fun vs H Q _ => ∃ (p p2 : Addr) (G : Hp) (b b2 : Bsk), vs = [.ref p, .ref p2] ∧ p ≠ p2 ∧ Same G H ∧ Bk K C G H p b ∧ Bk K C G H p2 b2 ∧ ∀ G' H', Fr G H G' H' → Q (.bl (eqB b b2)) H'
theorem sc_eq : FnScope ["self", "other"] ["self", "other"] (defScope s_Basket_eq) := ⟨rfl, rfl, rfl, by decide +kernel, rfl, by decide +kernel, by decide +kernel⟩
theorem ok_eq {f C : Addr} {fd : FuncData} (F : Fun K "__eq__" "Basket.__eq__" s_Basket_eq f fd) (T : BTx K mg C) (Y : BTy K C) (B : Blt mg) : FnOk P w K mg base CX0 1 f fd ["self", "other"] (spEqB K C) := by
  refine okS F sc_eq (fun vs H Q E h => by obtain ⟨p, p2, G, b, b2, rfl, _⟩ := h; rfl) fun cdv A outer s H E vs Q hr h => ?_
  obtain ⟨p, p2, G, b, b2, rfl, hne, sh, bk, bk2, q⟩ := h
  obtain ⟨dx, vf, vr, vu, h1, h2, h3, h4⟩ := bk.ex
  obtain ⟨dx2, vf2, vr2, vu2, h12, h22, h32, h42⟩ := bk2.ex
  have e1 := Same.new (o := .ins C dx (bfs vf vr vu)) bk.out
  have gp2 : upd G p (.ins C dx (bfs vf vr vu)) p2 = none := by rw [upd_ne (Ne.symm hne)]; exact bk2.out
  have e2 := e1.trans (Same.new (o := .ins C dx2 (bfs vf2 vr2 vu2)) gp2)
  have s2 := same_show (same_show sh h1) h12
  have I : InB K C (upd (upd G p (.ins C dx (bfs vf vr vu))) p2 (.ins C dx2 (bfs vf2 vr2 vu2))) p dx vf vr vu b := ⟨by rw [upd_ne hne]; exact upd_same, h2.up e2, h3.up e2, h4.up e2⟩
  have I2 : InB K C (upd (upd G p (.ins C dx (bfs vf vr vu))) p2 (.ins C dx2 (bfs vf2 vr2 vu2))) p2 dx2 vf2 vr2 vu2 b2 := ⟨upd_same, h22.up e2, h32.up e2, h42.up e2⟩
  have en0 := en_start (K := K) (G := upd (upd G p (.ins C dx (bfs vf vr vu))) p2 (.ins C dx2 (bfs vf2 vr2 vu2))) (N := ["self", "other"]) (ds := [.ref p, .ref p2]) (.cons (.ref p) (.cons (.ref p2) .nil))
  have hisi : RdC K (upd (upd G p (.ins C dx (bfs vf vr vu))) p2 (.ins C dx2 (bfs vf2 vr2 vu2))) (rIsi K) [.ref p2, .ref C] (.bl true) := fun xs G1 H1 sg sh r Q q => by
    cases r with
    | cons r1 r =>
      cases r with
      | cons r2 r =>
        cases r
        rw [r1.ref_of, r2.ref_of]
        exact ⟨.ref p2, .ref C, .ref C, .ref C, true, rfl, .own C, .base (.ins (sh _ _ (sg _ _ I2.at_)) T.cl Y.ha Y.hn Y.htk Y.hm), Y.kit, q _ _ _ (Fr.refl sh) (.bl _)⟩
  refine s_ret (d := .bl (eqB b b2)) ((e_and (e_callB call_isi B.isinstance_ (a_cons (e_v 1) (a_cons (e_glob T.mgC (v := .ref C) rfl fun _ => .ref C) a_nil)) hisi) fun _ => e_and (e_eqD hr.units (e_fld (e_v 0) I.at_ T.cl T.nF (bfs_f _ _ _) I.f) (e_fld (e_v 1) I2.at_ T.cl T.nF (bfs_f _ _ _) I2.f) (sh_fam (n := 0) _ _) (sh_fam (n := 0) _ _)) fun _ => e_one (e_eqD hr.units (e_fld (e_v 0) I.at_ T.cl T.nR (bfs_r _ _ _) I.r) (e_fld (e_v 1) I2.at_ T.cl T.nR (bfs_r _ _ _) I2.r) (sh_lF (n := 0) _) (sh_lF (n := 0) _))).is ?_) (Same.refl _) s2 en0 fun v G1 H1 f1 r1 => ?_
  · rw [eqv_fam, eqv_lF]
    rfl
  · obtain rfl := r1.bl_of
    exact q (hide (hide G1 p2) p) H1 ((f1.hide gp2).hide bk.out)
end

end G9
namespace G9
open PySem PySem.Spec PyProof.Rows L2 G9S
/-! ### the same defs with what they refuse -/
open L2H HotX
section
variable {P : Program} {w : World} {K : PySem.W.Frag} {mg : Str → Option Value} {base : Heap}
/-! need_family -/
def spNeedF (K : PySem.W.Frag) (cF : Addr) : Sp := fun vs H Q E => ∃ (d : D) (v : V) (G : Hp), vs = [v] ∧ Same G H ∧ Rp K G v d ∧ ((∃ m, m ≤ 60 ∧ Sm m d) ∨ ∃ t, d.tyS = some t ∧ kitB t "tuple" = some false) ∧ (isFamD d = true → ∀ G' H', Fr G H G' H' → Q .non H') ∧ (isFamD d = false → ∀ G' H', Fr G H G' H' → E (.ref cF) none H')
theorem ok_need_familyX {f cF : Addr} {fd : FuncData} (F : Fun K "need_family" "need_family" s_need_family f fd) (F1 : Fn P w K mg base "is_family" 3 (spR K R_is_family)) (T : ExcT K mg "InvalidFamily" cF) : FnOk P w K mg base (L2N.CX P w) 4 f fd ["family"] (spNeedF K cF) := by
  refine okN F sc_need_family (fun vs H Q E h => by obtain ⟨d, v, G, rfl, _⟩ := h; rfl) fun cdv A outer s H E vs Q hr h tk => ?_
  obtain ⟨d, v, G, rfl, sh, r, hd, q1, q2⟩ := h
  refine s_when (t_not (t_val (e_call F1 hr (a_cons (e_v 0) a_nil) ⟨d, hd, rfl, rfl⟩))) same_nil sh (en_start (N := ["family"]) (ds := [d]) (.cons r .nil)) (fun hb G1 H1 f1 en1 => ?_) fun hb G1 H1 f1 en1 => wB_nil (q1 (by simpa using hb) _ _ f1)
  exact s_raise T tk (q2 (by simpa using hb) _ _ f1)

def spTakeX (K : PySem.W.Frag) (C cT : Addr) : Sp := fun vs H Q E => ∃ (p : Addr) (v : V) (dv : D) (G : Hp) (b : Bsk) (r : List Int), vs = [.ref p, v] ∧ Same G H ∧ Rp K G v dv ∧ dv.tyS ≠ none ∧ Bk K C G H p b ∧ BOk b ∧ b.rows.length < 100 ∧ b.rows.getLast? = some r ∧
  (∀ t, dv = .int t → t ∈ freeOf b.n b.f r → ∀ v G' H', Fo p G H G' H' → Bk K C G' H' p { b with rows := b.rows ++ [addTo r t], und := [] } → Rp K G' v (.bl (decide (freeOf b.n b.f (addTo r t) = []))) → Q v H') ∧
  ((∀ t, dv = .int t → t ∉ freeOf b.n b.f r) → ∀ G' H', Fr G H G' H' → E (.ref cT) none H')
theorem ok_takeX {f C cT : Addr} {fd : FuncData} (F : Fun K "take" "Basket.take" s_Basket_take f fd) (T : BTx K mg C) (B : Blt mg) (F0 : Fn P w K mg base "is_whole" 1 (spR K R_is_whole)) (F1 : FnM P w K mg base C "picked" 1 (spB K C R_picked)) (F2 : FnM P w K mg base C "free" 3 (spB K C R_free)) (TT : ExcT K mg "InvalidThings" cT) : FnOk P w K mg base (L2N.CX P w) 4 f fd ["self", "thing"] (spTakeX K C cT) := by
  refine okN F sc_take (fun vs H Q E h => by obtain ⟨p, v, dv, G, b, r, rfl, _⟩ := h; rfl) fun cdv A outer s H E vs Q hr h tk => ?_
  obtain ⟨p, vt, dv, G, b, r, rfl, sh, rv, hty, bk, ok, hl, hr1, q, qx⟩ := h
  obtain ⟨dx, vf, vr, vu, s1, I⟩ := bk.sh sh
  have hlen := (ok.sets r (List.mem_of_getLast? hr1)).len ok.fam.n5
  have en0 : En K (upd G p (.ins C dx (bfs vf vr vu))) (L2.start ["self", "thing"] [.ref p, vt]) [some (.ref p), some dv] := en_start (N := ["self", "thing"]) (ds := [.ref p, dv]) (.cons (.ref p) (.cons (rv.up (Same.new bk.out)) .nil))
  have f0 : ∀ {G1 H1 : Hp}, Fr (upd G p (.ins C dx (bfs vf vr vu))) H G1 H1 → Fr G H (hide G1 p) H1 := fun f => f.hide bk.out
  by_cases hin : ∃ t, dv = .int t ∧ t ∈ freeOf b.n b.f r
  rotate_left
  · have hno : ∀ t, dv = .int t → t ∉ freeOf b.n b.f r := fun t e z => hin ⟨t, e, z⟩
    cases hwd : wholeD dv 0 (b.n - 1) with
    | false =>
      exact s_when (b := true) ((t_or2 (l := true) (t_not (t_val (e_call F0 (hr.mono (by decide)) (a_cons (e_v 1) (a_cons e_int (a_cons (e_op op_sub (e_at (e_fld (e_v 0) I.at_ T.cl T.nF (bfs_f _ _ _) I.f) rfl) e_int rd_i) a_nil))) ⟨dv, 0, b.n - 1, hty, rfl, rfl⟩))) fun z => absurd z (by rw [hwd]; decide)).is (by rw [hwd]; rfl)) (Same.refl _) s1 en0 (fun _ G1 H1 f1 en1 => s_raise TT tk (qx hno _ _ (f0 f1))) fun z => nomatch z
    | true =>
      obtain ⟨t, rfl⟩ : ∃ t, dv = .int t := by
        cases dv <;> first | exact ⟨_, rfl⟩ | (unfold wholeD at hwd; cases hwd)
      exact s_when (b := true) ((t_or2 (t_not (t_val (e_call F0 (hr.mono (by decide)) (a_cons (e_v 1) (a_cons e_int (a_cons (e_op op_sub (e_at (e_fld (e_v 0) I.at_ T.cl T.nF (bfs_f _ _ _) I.f) rfl) e_int rd_i) a_nil))) ⟨.int t, 0, b.n - 1, hty, rfl, rfl⟩))) fun _ => t_cmp op_notIn_seq (e_v 1) (e_bm F2 (e_v 0) I T.cl hr ⟨r, ok, hr1, rfl⟩) rd_ninT).is (by
        have : (freeOf b.n b.f r).contains t = false := by
          cases e : (freeOf b.n b.f r).contains t with
          | false => rfl
          | true => exact absurd (List.contains_iff_mem.mp e) (hno t rfl)
        rw [this, hwd]
        rfl)) (Same.refl _) s1 en0 (fun _ G1 H1 f1 en1 => s_raise TT tk (qx hno _ _ (f0 f1))) fun z => nomatch z
  obtain ⟨t, rfl, ht⟩ := hin
  obtain ⟨t0, tn, tr, tm⟩ := free_mem ht
  refine s_when (b := false) ((t_or2 (t_not (t_val (e_call F0 (hr.mono (by decide)) (a_cons (e_v 1) (a_cons e_int (a_cons (e_op op_sub (e_at (e_fld (e_v 0) I.at_ T.cl T.nF (bfs_f _ _ _) I.f) rfl) e_int rd_i) a_nil))) ⟨.int t, 0, b.n - 1, hty, rfl, rfl⟩))) fun _ => t_cmp op_notIn_seq (e_v 1) (e_bm F2 (e_v 0) I T.cl hr ⟨r, ok, hr1, rfl⟩) rd_ninT).is ?_) (Same.refl _) s1 en0 (fun hb => nomatch hb) fun _ G1 H1 f1 en1 => ?_
  · have h1 : wholeD (.int t) 0 (b.n - 1) = true := by
      unfold wholeD
      simp
      omega
    rw [h1, List.contains_iff_mem.mpr ht]
    rfl
  · have I1 := I.up f1.g
    have m1 : Fo p G H (hide G1 p) H1 := by
      have := f1.hid (p := p) (I.no s1)
      rwa [hide_none bk.out] at this
    refine s_fld (e := _) (d := .lst ((b.rows ++ [addTo r t]).map dS)) ((l_op op_cat (e_fld (e_v 0) I1.at_ T.cl T.nR (bfs_r _ _ _) I1.r) (l_lst (a_cons (e_tuple B (l_sortTI (ns := r ++ [t]) B.sorted_ ((e_op op_catA (e_bm F1 (e_v 0) I1 T.cl (hr.mono (by decide)) ⟨r, hr1, rfl⟩) (e_tup (a_cons (e_v 1) a_nil) (by show 1 ≤ 100000; decide)) (rd_catT ?_)).is (by simp [dS]))).ev) a_nil) (by show 1 ≤ 100000; decide)).ev (rd_cat ?_)).ev.is (by simp [addTo])) (e_v 0) (Same.refl _) f1.s en1 I1.at_ T.cl T.nR (by show 3 < 1000; decide) fun v2 G2 H2 f2 r2 => ?_
    · rw [List.length_map]
      show r.length + 1 ≤ 100000
      omega
    · rw [List.length_map]
      show b.rows.length + 1 ≤ 100000
      omega
    · rw [bfs_putr]
      have I2 := (I1.up f2.g).rows r2
      have s2 := same_put (p := p) (o := .ins C dx (bfs vf v2 vu)) f2.s
      have en2 := (en1.up f2.g).kp (Kp.put (u := .ins C dx (bfs vf v2 vu)) (I1.up f2.g).at_ rfl)
      have m2 : Fo p G H (hide (upd G2 p (.ins C dx (bfs vf v2 vu))) p) (upd H2 p (.ins C dx (bfs vf v2 vu))) := by
        rw [hide_upd]
        exact (m1.trans (f2.hid (I1.no f1.s))).mut hide_same
      refine s_fld (d := .lst (([] : List (List Int)).map dS)) ((l_lst a_nil).ev) (e_v 0) (Same.refl _) s2 en2 I2.at_ T.cl T.nU (by show 3 < 1000; decide) fun v3 G3 H3 f3 r3 => ?_
      rw [bfs_putu]
      have I3 := (I2.up f3.g).undone r3
      have s3 := same_put (p := p) (o := .ins C dx (bfs vf v2 v3)) f3.s
      have en3 := (en2.up f3.g).kp (Kp.put (u := .ins C dx (bfs vf v2 v3)) (I2.up f3.g).at_ rfl)
      have m3 : Fo p G H (hide (upd G3 p (.ins C dx (bfs vf v2 v3))) p) (upd H3 p (.ins C dx (bfs vf v2 v3))) := by
        rw [hide_upd]
        exact (m2.trans (f3.hid (I2.no s2))).mut hide_same
      refine s_ret ((e_eqD hr.units (e_bm F2 (e_v 0) I3 T.cl hr ⟨addTo r t, ok.take hl hr1 ht, by simp, rfl⟩) (e_tup (ds := ([] : List Int).map D.int) a_nil (by show 0 ≤ 100000; decide)) (sh_dS (n := 0) _) (sh_dS (n := 0) [])).is (by rw [eqv_dS])) (Same.refl _) s3 en3 fun v4 G4 H4 f4 r4 => ?_
      have I4 := I3.up f4.g
      exact q t rfl ht v4 (hide G4 p) H4 (m3.trans (f4.hid (I3.no s3))) (I4.bk f4.s) (r4.kp (Kp.hide I4.at_ rfl))

def spUndoX (K : PySem.W.Frag) (C cN : Addr) : Sp := fun vs H Q E => ∃ (p : Addr) (G : Hp) (b : Bsk) (rs : List (List Int)) (z : List Int), vs = [.ref p] ∧ Same G H ∧ Bk K C G H p b ∧ BOk b ∧ b.und.length < 100 ∧ b.rows = rs ++ [z] ∧
  (∀ r, rs.getLast? = some r → ∀ v G' H', Fo p G H G' H' → Bk K C G' H' p { b with rows := rs, und := b.und ++ [z] } → Rp K G' v (dS r) → Q v H') ∧ (rs = [] → ∀ G' H', Fr G H G' H' → E (.ref cN) none H')
theorem ok_undoX {f C cN : Addr} {fd : FuncData} (F : Fun K "undo" "Basket.undo" s_Basket_undo f fd) (T : BTx K mg C) (B : Blt mg) (F1 : FnM P w K mg base C "picked" 1 (spB K C R_picked)) (TN : ExcT K mg "NothingToUndo" cN) : FnOk P w K mg base (L2N.CX P w) 2 f fd ["self"] (spUndoX K C cN) := by
  refine okN F sc_undo (fun vs H Q E h => by obtain ⟨p, G, b, rs, z, rfl, _⟩ := h; rfl) fun cdv A outer s H E vs Q hr h tk => ?_
  obtain ⟨p, G, b, rs, z, rfl, sh, bk, ok, hl, hrs, q, qx⟩ := h
  obtain ⟨dx, vf, vr, vu, s1, I⟩ := bk.sh sh
  have en0 : En K (upd G p (.ins C dx (bfs vf vr vu))) (L2.start ["self"] [.ref p]) [some (.ref p)] := en_start (N := ["self"]) (ds := [.ref p]) (.cons (.ref p) .nil)
  have hlast : b.rows.getLast? = some z := by rw [hrs]; simp
  by_cases hrs0 : rs = []
  · refine s_when (b := true) ((t_cmp op_eq (e_lenL B (e_fld (e_v 0) I.at_ T.cl T.nR (bfs_r _ _ _) I.r)) e_int rd_eqI).is (by rw [List.length_map, hrs, hrs0]; rfl)) (Same.refl _) s1 en0 (fun _ G1 H1 f1 en1 => s_raise TN tk (qx hrs0 _ _ (f1.hide bk.out))) fun hb => nomatch hb
  obtain ⟨r, hr1⟩ : ∃ r, rs.getLast? = some r := by
    cases e : rs.getLast? with
    | some r => exact ⟨r, rfl⟩
    | none => exact absurd (List.getLast?_eq_none_iff.mp e) hrs0
  have hlen : ((b.rows.map dS).length : Int) ≠ 1 := by
    rw [List.length_map, hrs, List.length_append]
    have : rs ≠ [] := fun e => by rw [e] at hr1; cases hr1
    have := List.length_pos_iff.mpr this
    simp
    omega
  refine s_when (b := false) ((t_cmp op_eq (e_lenL B (e_fld (e_v 0) I.at_ T.cl T.nR (bfs_r _ _ _) I.r)) e_int rd_eqI).is (decide_eq_false hlen)) (Same.refl _) s1 en0 (fun hb => nomatch hb) fun _ G1 H1 f1 en1 => ?_
  have I1 := I.up f1.g
  have m1 : Fo p G H (hide G1 p) H1 := by
    have := f1.hid (p := p) (I.no s1)
    rwa [hide_none bk.out] at this
  refine s_fld (d := .lst ((b.und ++ [z]).map dS)) ((l_op op_cat (e_fld (e_v 0) I1.at_ T.cl T.nU (bfs_u _ _ _) I1.u) (l_lst (a_cons (e_last (e_fld (e_v 0) I1.at_ T.cl T.nR (bfs_r _ _ _) I1.r) (getLast_map hlast)) a_nil) (by show 1 ≤ 100000; decide)).ev (rd_cat ?_)).ev.is (by rw [map_app])) (e_v 0) (Same.refl _) f1.s en1 I1.at_ T.cl T.nU (by show 3 < 1000; decide) fun v2 G2 H2 f2 r2 => ?_
  · rw [List.length_map]
    show b.und.length + 1 ≤ 100000
    omega
  · rw [bfs_putu]
    have I2 := (I1.up f2.g).undone r2
    have s2 := same_put (p := p) (o := .ins C dx (bfs vf vr v2)) f2.s
    have en2 := (en1.up f2.g).kp (Kp.put (u := .ins C dx (bfs vf vr v2)) (I1.up f2.g).at_ rfl)
    have m2 : Fo p G H (hide (upd G2 p (.ins C dx (bfs vf vr v2))) p) (upd H2 p (.ins C dx (bfs vf vr v2))) := by
      rw [hide_upd]
      exact (m1.trans (f2.hid (I1.no f1.s))).mut hide_same
    refine s_fld (d := .lst (rs.map dS)) ((l_init (e_fld (e_v 0) I2.at_ T.cl T.nR (bfs_r _ _ _) I2.r)).ev.is (by show D.lst (b.rows.map dS).dropLast = _; rw [hrs, map_app, List.dropLast_concat])) (e_v 0) (Same.refl _) s2 en2 I2.at_ T.cl T.nR (by show 3 < 1000; decide) fun v3 G3 H3 f3 r3 => ?_
    rw [bfs_putr]
    have I3 := (I2.up f3.g).rows r3
    have s3 := same_put (p := p) (o := .ins C dx (bfs vf v3 v2)) f3.s
    have en3 := (en2.up f3.g).kp (Kp.put (u := .ins C dx (bfs vf v3 v2)) (I2.up f3.g).at_ rfl)
    have m3 : Fo p G H (hide (upd G3 p (.ins C dx (bfs vf v3 v2))) p) (upd H3 p (.ins C dx (bfs vf v3 v2))) := by
      rw [hide_upd]
      exact (m2.trans (f3.hid (I2.no s2))).mut hide_same
    refine s_ret (e_bm F1 (e_v 0) I3 T.cl hr ⟨r, hr1, rfl⟩) (Same.refl _) s3 en3 fun v4 G4 H4 f4 r4 => ?_
    have I4 := I3.up f4.g
    exact q r hr1 v4 (hide G4 p) H4 (m3.trans (f4.hid (I3.no s3))) (I4.bk f4.s) (r4.kp (Kp.hide I4.at_ rfl))

def spRedoX (K : PySem.W.Frag) (C cN : Addr) : Sp := fun vs H Q E => ∃ (p : Addr) (G : Hp) (b : Bsk), vs = [.ref p] ∧ Same G H ∧ Bk K C G H p b ∧ BOk b ∧ b.rows.length < 100 ∧
  (∀ us z, b.und = us ++ [z] → ∀ v G' H', Fo p G H G' H' → Bk K C G' H' p { b with rows := b.rows ++ [z], und := us } → Rp K G' v (dS z) → Q v H') ∧ (b.und = [] → ∀ G' H', Fr G H G' H' → E (.ref cN) none H')
theorem ok_redoX {f C cN : Addr} {fd : FuncData} (F : Fun K "redo" "Basket.redo" s_Basket_redo f fd) (T : BTx K mg C) (B : Blt mg) (F1 : FnM P w K mg base C "picked" 1 (spB K C R_picked)) (TN : ExcT K mg "NothingToUndo" cN) : FnOk P w K mg base (L2N.CX P w) 2 f fd ["self"] (spRedoX K C cN) := by
  refine okN F sc_redo (fun vs H Q E h => by obtain ⟨p, G, b, rfl, _⟩ := h; rfl) fun cdv A outer s H E vs Q hr h tk => ?_
  obtain ⟨p, G, b, rfl, sh, bk, ok, hl, q, qx⟩ := h
  obtain ⟨dx, vf, vr, vu, s1, I⟩ := bk.sh sh
  have en0 : En K (upd G p (.ins C dx (bfs vf vr vu))) (L2.start ["self"] [.ref p]) [some (.ref p)] := en_start (N := ["self"]) (ds := [.ref p]) (.cons (.ref p) .nil)
  by_cases hu0 : b.und = []
  · refine s_when (b := true) ((t_eqD hr.units (e_fld (e_v 0) I.at_ T.cl T.nU (bfs_u _ _ _) I.u) ((l_lst a_nil).ev.is (d' := .lst (([] : List (List Int)).map dS)) rfl) (sh_lF (n := 0) _) (sh_lF (n := 0) [])).is (by rw [eqv_lF, hu0]; simp)) (Same.refl _) s1 en0 (fun _ G1 H1 f1 en1 => s_raise TN tk (qx hu0 _ _ (f1.hide bk.out))) fun hb => nomatch hb
  obtain ⟨us, z, hus⟩ : ∃ us z, b.und = us ++ [z] := by
    cases e : b.und.getLast? with
    | some z =>
      obtain ⟨us, h⟩ := List.getLast?_eq_some_iff.mp e
      exact ⟨us, z, h⟩
    | none => exact absurd (List.getLast?_eq_none_iff.mp e) hu0
  have hlast : b.und.getLast? = some z := by rw [hus]; simp
  refine s_when (b := false) ((t_eqD hr.units (e_fld (e_v 0) I.at_ T.cl T.nU (bfs_u _ _ _) I.u) ((l_lst a_nil).ev.is (d' := .lst (([] : List (List Int)).map dS)) rfl) (sh_lF (n := 0) _) (sh_lF (n := 0) [])).is (by rw [eqv_lF, hus]; simp)) (Same.refl _) s1 en0 (fun hb => nomatch hb) fun _ G1 H1 f1 en1 => ?_
  have I1 := I.up f1.g
  have m1 : Fo p G H (hide G1 p) H1 := by
    have := f1.hid (p := p) (I.no s1)
    rwa [hide_none bk.out] at this
  refine s_fld (d := .lst ((b.rows ++ [z]).map dS)) ((l_op op_cat (e_fld (e_v 0) I1.at_ T.cl T.nR (bfs_r _ _ _) I1.r) (l_lst (a_cons (e_last (e_fld (e_v 0) I1.at_ T.cl T.nU (bfs_u _ _ _) I1.u) (getLast_map hlast)) a_nil) (by show 1 ≤ 100000; decide)).ev (rd_cat ?_)).ev.is (by rw [map_app])) (e_v 0) (Same.refl _) f1.s en1 I1.at_ T.cl T.nR (by show 3 < 1000; decide) fun v2 G2 H2 f2 r2 => ?_
  · rw [List.length_map]
    show b.rows.length + 1 ≤ 100000
    omega
  · rw [bfs_putr]
    have I2 := (I1.up f2.g).rows r2
    have s2 := same_put (p := p) (o := .ins C dx (bfs vf v2 vu)) f2.s
    have en2 := (en1.up f2.g).kp (Kp.put (u := .ins C dx (bfs vf v2 vu)) (I1.up f2.g).at_ rfl)
    have m2 : Fo p G H (hide (upd G2 p (.ins C dx (bfs vf v2 vu))) p) (upd H2 p (.ins C dx (bfs vf v2 vu))) := by
      rw [hide_upd]
      exact (m1.trans (f2.hid (I1.no f1.s))).mut hide_same
    refine s_fld (d := .lst (us.map dS)) ((l_init (e_fld (e_v 0) I2.at_ T.cl T.nU (bfs_u _ _ _) I2.u)).ev.is (by show D.lst (b.und.map dS).dropLast = _; rw [hus, map_app, List.dropLast_concat])) (e_v 0) (Same.refl _) s2 en2 I2.at_ T.cl T.nU (by show 3 < 1000; decide) fun v3 G3 H3 f3 r3 => ?_
    rw [bfs_putu]
    have I3 := (I2.up f3.g).undone r3
    have s3 := same_put (p := p) (o := .ins C dx (bfs vf v2 v3)) f3.s
    have en3 := (en2.up f3.g).kp (Kp.put (u := .ins C dx (bfs vf v2 v3)) (I2.up f3.g).at_ rfl)
    have m3 : Fo p G H (hide (upd G3 p (.ins C dx (bfs vf v2 v3))) p) (upd H3 p (.ins C dx (bfs vf v2 v3))) := by
      rw [hide_upd]
      exact (m2.trans (f3.hid (I2.no s2))).mut hide_same
    refine s_ret (e_bm F1 (e_v 0) I3 T.cl hr ⟨z, by simp, rfl⟩) (Same.refl _) s3 en3 fun v4 G4 H4 f4 r4 => ?_
    have I4 := I3.up f4.g
    exact q us z hus v4 (hide G4 p) H4 (m3.trans (f4.hid (I3.no s3))) (I4.bk f4.s) (r4.kp (Kp.hide I4.at_ rfl))
/-! __init__ -/
def spInitX (K : PySem.W.Frag) (C cF : Addr) : Sp := fun vs H Q E => ∃ (p dx : Addr) (vf : V) (d : D) (G : Hp), vs = [.ref p, vf] ∧ Same G H ∧ G p = none ∧ H p = some (.ins C dx []) ∧ Rp K G vf d ∧ ((∃ m, m ≤ 60 ∧ Sm m d) ∨ ∃ t, d.tyS = some t ∧ kitB t "tuple" = some false) ∧ ((∃ n f, d = dFam n f ∧ FamOk n f) ∨ isFamD d = false) ∧
  (∀ n f, d = dFam n f → FamOk n f → ∀ G' H', Fo p G H G' H' → Bk K C G' H' p ⟨n, f, [[]], []⟩ → Q .non H') ∧ (isFamD d = false → ∀ G' H', Fr G H G' H' → E (.ref cF) none H')
theorem ok_initX {f C cF : Addr} {fd : FuncData} (F : Fun K "__init__" "Basket.__init__" s_Basket_init f fd) (T : BTx K mg C) (F1 : FnX P w K mg base "need_family" 4 (spNeedF K cF)) : FnOk P w K mg base (L2N.CX P w) 5 f fd ["self", "family"] (spInitX K C cF) := by
  refine okN F sc_init (fun vs H Q E h => by obtain ⟨p, dx, vf, d, G, rfl, _⟩ := h; rfl) fun cdv A outer s H E vs Q hr h tk => ?_
  obtain ⟨p, dx, vf, d, G, rfl, sh, gp, hp, rf, hd, hor, q, qx⟩ := h
  have s1 := same_show sh hp
  have e1 := Same.new (o := .ins C dx []) gp
  have en0 : En K (upd G p (.ins C dx [])) (L2.start ["self", "family"] [.ref p, vf]) [some (.ref p), some d] := en_start (N := ["self", "family"]) (ds := [.ref p, d]) (.cons (.ref p) (.cons (rf.up e1) .nil))
  refine wB_cons (wS_of (ps_expr pw) (w_callX F1 hr tk (useA en0 (Same.refl _) s1 (a_cons (e_v 1) a_nil) fun vs Ga Ha fa ra => ?_)))
  cases ra with
  | cons ra rn =>
  cases rn
  refine ⟨d, _, Ga, rfl, fa.s, ra, hd, fun hok Gb Hb fb => ?_, fun hno Gb Hb fb => qx hno _ _ ((fa.trans fb).hide gp)⟩
  obtain ⟨n, f, rfl, ok⟩ : ∃ n f, d = dFam n f ∧ FamOk n f := by
    rcases hor with h | h
    · exact h
    · rw [h] at hok
      cases hok
  have q := q n f rfl ok
  have f1 := fa.trans fb
  have en1 := en0.up f1.g
  generalize hG1 : Gb = G1 at f1 en1
  generalize hH1 : Hb = H1 at f1
  show wB _ _ _ _ _
  have g1 : G1 p = some (.ins C dx []) := f1.g _ _ upd_same
  have nn : ∀ {H : Hp} {o : HO}, H p = some o → H p ≠ none := fun e z => by
    rw [e] at z
    cases z
  have m1 : Fo p G H (hide G1 p) H1 := by
    have := f1.hid (p := p) (nn hp)
    rwa [hide_none gp] at this
  refine s_fld (e_v 1) (e_v 0) (Same.refl _) f1.s en1 g1 T.cl T.nF (by show 0 < 1000; decide) fun v2 G2 H2 f2 r2 => ?_
  have g2 : G2 p = some (.ins C dx []) := f2.g _ _ g1
  have k2 := Kp.put (u := .ins C dx (putF "family" v2 [])) g2 rfl
  have s2 := same_put (p := p) (o := .ins C dx (putF "family" v2 [])) f2.s
  have en2 := (en1.up f2.g).kp k2
  have m2 : Fo p G H (hide (upd G2 p (.ins C dx (putF "family" v2 []))) p) (upd H2 p (.ins C dx (putF "family" v2 []))) := by
    rw [hide_upd]
    exact (m1.trans (f2.hid (nn (f1.s _ _ g1)))).mut hide_same
  refine s_fld (d := .lst (([[]] : List (List Int)).map dS)) (l_lst (a_cons (e_tup a_nil (by show 0 ≤ 100000; decide)) a_nil)).ev (e_v 0) (Same.refl _) s2 en2 upd_same T.cl T.nR (by show 1 < 1000; decide) fun v3 G3 H3 f3 r3 => ?_
  have g3 : G3 p = some (.ins C dx (putF "family" v2 [])) := f3.g _ _ upd_same
  have k3 := Kp.put (u := .ins C dx (putF "rows" v3 (putF "family" v2 []))) g3 rfl
  have s3 := same_put (p := p) (o := .ins C dx (putF "rows" v3 (putF "family" v2 []))) f3.s
  have en3 := (en2.up f3.g).kp k3
  have m3 : Fo p G H (hide (upd G3 p (.ins C dx (putF "rows" v3 (putF "family" v2 [])))) p) (upd H3 p (.ins C dx (putF "rows" v3 (putF "family" v2 [])))) := by
    rw [hide_upd]
    exact (m2.trans (f3.hid (nn (s2 _ _ upd_same)))).mut hide_same
  refine s_fld (d := .lst (([] : List (List Int)).map dS)) (l_lst a_nil).ev (e_v 0) (Same.refl _) s3 en3 upd_same T.cl T.nU (by rw [show putF "rows" v3 (putF "family" v2 []) = [(("family" : Str), v2), ("rows", v3)] from if_neg fr_]; show 2 < 1000; decide) fun v4 G4 H4 f4 r4 => ?_
  have g4 : G4 p = some (.ins C dx (putF "rows" v3 (putF "family" v2 []))) := f4.g _ _ upd_same
  have k4 := Kp.put (u := .ins C dx (bfs v2 v3 v4)) g4 rfl
  rw [bfs_made]
  have I : InB K C (upd G4 p (.ins C dx (bfs v2 v3 v4))) p dx v2 v3 v4 ⟨n, f, [[]], []⟩ := ⟨upd_same, ((((r2.kp k2).up f3.g).kp k3).up f4.g).kp k4, ((r3.kp k3).up f4.g).kp k4, r4.kp k4⟩
  refine wB_nil (q (hide (upd G4 p (.ins C dx (bfs v2 v3 v4))) p) _ ?_ (I.bk (same_put f4.s)))
  rw [hide_upd]
  exact (m3.trans (f4.hid (nn (s3 _ _ upd_same)))).mut hide_same
end

end G9
namespace G9
open PySem PySem.Spec PyProof.Rows L2 G9S
/-! ### leave, len -/
open L2H HotX
section
variable {P : Program} {w : World} {K : PySem.W.Frag} {mg : Str → Option Value} {base : Heap}
def spLeaveX (K : PySem.W.Frag) (C cT : Addr) : Sp := fun vs H Q E => ∃ (p : Addr) (v : V) (dv : D) (G : Hp) (b : Bsk) (r : List Int), vs = [.ref p, v] ∧ Same G H ∧ Rp K G v dv ∧ dv.tyS ≠ none ∧ Bk K C G H p b ∧ BOk b ∧ b.rows.length < 100 ∧ b.rows.getLast? = some r ∧
  (∀ t, dv = .int t → t ∈ r → ∀ v G' H', Fo p G H G' H' → Bk K C G' H' p { b with rows := b.rows ++ [r.filter fun o => !decide (o = t)], und := [] } → Rp K G' v (dS (r.filter fun o => !decide (o = t))) → Q v H') ∧
  ((∀ t, dv = .int t → t ∉ r) → ∀ G' H', Fr G H G' H' → E (.ref cT) none H')
theorem sc_leave : FnScope ["self", "thing", "one"] ["self", "thing"] (defScope s_Basket_leave) := ⟨rfl, rfl, rfl, by decide +kernel, rfl, by decide +kernel, by decide +kernel⟩
theorem ok_leaveX {f C cT : Addr} {fd : FuncData} (F : Fun K "leave" "Basket.leave" s_Basket_leave f fd) (T : BTx K mg C) (B : Blt mg) (F0 : Fn P w K mg base "is_whole" 1 (spR K R_is_whole)) (F1 : FnM P w K mg base C "picked" 1 (spB K C R_picked)) (TT : ExcT K mg "InvalidThings" cT) : FnOk P w K mg base (L2N.CX P w) 2 f fd ["self", "thing"] (spLeaveX K C cT) := by
  refine okN F sc_leave (fun vs H Q E h => by obtain ⟨p, v, dv, G, b, r, rfl, _⟩ := h; rfl) fun cdv A outer s H E vs Q hr h tk => ?_
  obtain ⟨p, vt, dv, G, b, r, rfl, sh, rv, hty, bk, ok, hl, hr1, q, qx⟩ := h
  obtain ⟨dx, vf, vr, vu, s1, I⟩ := bk.sh sh
  have hN := sc_leave.nd
  have hlen := (ok.sets r (List.mem_of_getLast? hr1)).len ok.fam.n5
  have en0 : En K (upd G p (.ins C dx (bfs vf vr vu))) (L2.start ["self", "thing", "one"] [.ref p, vt]) [some (.ref p), some dv, none] := en_start (N := ["self", "thing", "one"]) (ds := [.ref p, dv]) (.cons (.ref p) (.cons (rv.up (Same.new bk.out)) .nil))
  have f0 : ∀ {G1 H1 : Hp}, Fr (upd G p (.ins C dx (bfs vf vr vu))) H G1 H1 → Fr G H (hide G1 p) H1 := fun f => f.hide bk.out
  by_cases hin : ∃ t, dv = .int t ∧ t ∈ r
  rotate_left
  · have hno : ∀ t, dv = .int t → t ∉ r := fun t e z => hin ⟨t, e, z⟩
    cases hwd : wholeD dv 0 (b.n - 1) with
    | false =>
      exact s_when (b := true) ((t_or2 (l := true) (t_not (t_val (e_call F0 hr (a_cons (e_v 1) (a_cons e_int (a_cons (e_op op_sub (e_at (e_fld (e_v 0) I.at_ T.cl T.nF (bfs_f _ _ _) I.f) rfl) e_int rd_i) a_nil))) ⟨dv, 0, b.n - 1, hty, rfl, rfl⟩))) fun z => absurd z (by rw [hwd]; decide)).is (by rw [hwd]; rfl)) (Same.refl _) s1 en0 (fun _ G1 H1 f1 en1 => s_raise TT tk (qx hno _ _ (f0 f1))) fun z => nomatch z
    | true =>
      obtain ⟨t, rfl⟩ : ∃ t, dv = .int t := by
        cases dv <;> first | exact ⟨_, rfl⟩ | (unfold wholeD at hwd; cases hwd)
      exact s_when (b := true) ((t_or2 (t_not (t_val (e_call F0 hr (a_cons (e_v 1) (a_cons e_int (a_cons (e_op op_sub (e_at (e_fld (e_v 0) I.at_ T.cl T.nF (bfs_f _ _ _) I.f) rfl) e_int rd_i) a_nil))) ⟨.int t, 0, b.n - 1, hty, rfl, rfl⟩))) fun _ => t_cmp op_notIn_seq (e_v 1) (e_bm F1 (e_v 0) I T.cl hr ⟨r, hr1, rfl⟩) rd_ninT).is (by
        have : (r).contains t = false := by
          cases e : (r).contains t with
          | false => rfl
          | true => exact absurd (List.contains_iff_mem.mp e) (hno t rfl)
        rw [this, hwd]
        rfl)) (Same.refl _) s1 en0 (fun _ G1 H1 f1 en1 => s_raise TT tk (qx hno _ _ (f0 f1))) fun z => nomatch z
  obtain ⟨t, rfl, ht⟩ := hin
  obtain ⟨t0, tn⟩ := (ok.sets r (List.mem_of_getLast? hr1)).low t ht
  refine s_when (b := false) ((t_or2 (t_not (t_val (e_call F0 hr (a_cons (e_v 1) (a_cons e_int (a_cons (e_op op_sub (e_at (e_fld (e_v 0) I.at_ T.cl T.nF (bfs_f _ _ _) I.f) rfl) e_int rd_i) a_nil))) ⟨.int t, 0, b.n - 1, hty, rfl, rfl⟩))) fun _ => t_cmp op_notIn_seq (e_v 1) (e_bm F1 (e_v 0) I T.cl hr ⟨r, hr1, rfl⟩) rd_ninT).is ?_) (Same.refl _) s1 en0 (fun hb => nomatch hb) fun _ G1 H1 f1 en1 => ?_
  · have h1 : wholeD (.int t) 0 (b.n - 1) = true := by
      unfold wholeD
      simp
      omega
    rw [h1, List.contains_iff_mem.mpr ht]
    rfl
  · have I1 := I.up f1.g
    have m1 : Fo p G H (hide G1 p) H1 := by
      have := f1.hid (p := p) (I.no s1)
      rwa [hide_none bk.out] at this
    refine s_fld (e := _) (d := .lst ((b.rows ++ [r.filter fun o => !decide (o = t)]).map dS)) ((l_op op_cat (e_fld (e_v 0) I1.at_ T.cl T.nR (bfs_r _ _ _) I1.r) (l_lst (a_cons (e_tuple B (l_lc 2 (c_fil D.int r (fun o => !decide (o = t)) 2 (i_tup (e_bm F1 (e_v 0) I1 T.cl hr ⟨r, hr1, rfl⟩)) (by omega) fun o ho _ _ _ _ _ => t_cmp op_ne (e_v 2) (e_v 1) rd_neI)).ev) a_nil) (by show 1 ≤ 100000; decide)).ev (rd_cat ?_)).ev.is (by rw [map_app])) (e_v 0) (Same.refl _) f1.s en1 I1.at_ T.cl T.nR (by show 3 < 1000; decide) fun v2 G2 H2 f2 r2 => ?_
    · rw [List.length_map]
      show b.rows.length + 1 ≤ 100000
      omega
    · rw [bfs_putr]
      have I2 := (I1.up f2.g).rows r2
      have s2 := same_put (p := p) (o := .ins C dx (bfs vf v2 vu)) f2.s
      have en2 := (en1.up f2.g).kp (Kp.put (u := .ins C dx (bfs vf v2 vu)) (I1.up f2.g).at_ rfl)
      have m2 : Fo p G H (hide (upd G2 p (.ins C dx (bfs vf v2 vu))) p) (upd H2 p (.ins C dx (bfs vf v2 vu))) := by
        rw [hide_upd]
        exact (m1.trans (f2.hid (I1.no f1.s))).mut hide_same
      refine s_fld (d := .lst (([] : List (List Int)).map dS)) ((l_lst a_nil).ev) (e_v 0) (Same.refl _) s2 en2 I2.at_ T.cl T.nU (by show 3 < 1000; decide) fun v3 G3 H3 f3 r3 => ?_
      rw [bfs_putu]
      have I3 := (I2.up f3.g).undone r3
      have s3 := same_put (p := p) (o := .ins C dx (bfs vf v2 v3)) f3.s
      have en3 := (en2.up f3.g).kp (Kp.put (u := .ins C dx (bfs vf v2 v3)) (I2.up f3.g).at_ rfl)
      have m3 : Fo p G H (hide (upd G3 p (.ins C dx (bfs vf v2 v3))) p) (upd H3 p (.ins C dx (bfs vf v2 v3))) := by
        rw [hide_upd]
        exact (m2.trans (f3.hid (I2.no s2))).mut hide_same
      refine s_ret (e_bm F1 (e_v 0) I3 T.cl hr ⟨r.filter fun o => !decide (o = t), by simp, rfl⟩) (Same.refl _) s3 en3 fun v4 G4 H4 f4 r4 => ?_
      have I4 := I3.up f4.g
      exact q t rfl ht v4 (hide G4 p) H4 (m3.trans (f4.hid (I3.no s3))) (I4.bk f4.s) (r4.kp (Kp.hide I4.at_ rfl))

/-! len -/
theorem sc_len : FnScope ["self"] ["self"] (defScope s_Basket_len) := ⟨rfl, rfl, rfl, by decide +kernel, rfl, by decide +kernel, by decide +kernel⟩
def R_len (b : Bsk) (d : D) : Prop := ∃ r, b.rows.getLast? = some r ∧ d = .int (r.length : Int)
theorem ok_len {f C : Addr} {fd : FuncData} (F : Fun K "__len__" "Basket.__len__" s_Basket_len f fd) (T : BTx K mg C) (B : Blt mg) (F1 : FnM P w K mg base C "picked" 1 (spB K C R_picked)) : FnOk P w K mg base CX0 2 f fd ["self"] (spB K C R_len) := by
  refine okS F sc_len (fun vs H Q E h => by obtain ⟨p, G, b, d, rfl, _⟩ := h; rfl) fun cdv A outer s H E vs Q hr h => ?_
  obtain ⟨p, G, b, d, rfl, sh, bk, ⟨r, hr1, rfl⟩, q⟩ := h
  obtain ⟨dx, vf, vr, vu, s1, I⟩ := bk.sh sh
  refine s_ret ((e_lenT B (e_bm F1 (e_v 0) I T.cl hr ⟨r, hr1, rfl⟩)).is (by rw [List.length_map])) (Same.refl _) s1 (en_start (N := ["self"]) (ds := [.ref p]) (.cons (.ref p) .nil)) fun v G1 H1 f1 r1 => ?_
  have I1 := I.up f1.g
  exact q v _ H1 (f1.hide bk.out) (r1.kp (Kp.hide I1.at_ rfl))
end

end G9
namespace G9
open PySem PySem.Spec PyProof.Rows L2 G9S
/-! ### the law's level: what is drawn may be anything; all but the die and the tables stays -/
open L2H HotX
def noT (G : Hp) : Hp := fun b => match G b with
  | some (.tbl _) => none
  | o => o
theorem noT_sub {G : Hp} {b : Addr} {o : HO} (h : noT G b = some o) : G b = some o ∧ ∀ ps, o ≠ .tbl ps := by
  unfold noT at h
  split at h
  · cases h
  · rename_i q
    refine ⟨h, fun ps z => ?_⟩
    subst z
    exact q ps h
theorem noT_of {G : Hp} {b : Addr} {o : HO} (h : G b = some o) (n : ∀ ps, o ≠ .tbl ps) : noT G b = some o := by
  unfold noT
  split
  · rename_i ps q
    rw [h] at q
    cases q
    exact absurd rfl (n ps)
  · exact h
theorem noT_none {G : Hp} {b : Addr} (h : G b = none) : noT G b = none := by
  unfold noT
  rw [h]
theorem kp_noT {G : Hp} : Kp G (noT G) := fun b o e h => noT_of e fun ps z => by
  subst z
  cases h
def mutO : HO → Bool
  | .lst _ => true
  | .ins _ _ _ => true
  | _ => false
theorem tabs_but {T : List (Addr × Str)} {H H' : Hp} {x : Addr} {o : HO} (t : LamX.Tabs T H) (hx : H x = some o) (hm : mutO o = true) (k : ∀ b u, b ≠ x → H b = some u → H' b = some u) : LamX.Tabs T H' := fun p hp => by
  obtain ⟨ps, h1, h2, h3⟩ := t p hp
  have n1 : p.1 ≠ x := fun z => by
    rw [z, hx] at h1
    cases h1
    cases hm
  refine ⟨ps, k _ _ n1 h1, h2, fun pos cv hc => ?_⟩
  obtain ⟨c, e1, e2⟩ := h3 pos cv hc
  have n2 : c ≠ x := fun z => by
    rw [z, hx] at e2
    cases e2
    cases hm
  exact ⟨c, e1, k _ _ n2 e2⟩
abbrev Tbs := List (Addr × Str)
structure Fw (T : Tbs) (a : Addr) (G H G' H' : Hp) : Prop where
  h : ∀ b o, b ≠ a → (∀ ps, o ≠ .tbl ps) → H b = some o → H' b = some o
  g : Kp G G'
  s : Same G' H'
  n : ∀ b o, G b = none → H b = some o → (∀ ps, o ≠ .tbl ps) → G' b = none
  d : Die H' a
  t : LamX.Tabs T H'
structure Wz (T : Tbs) (Hs : Hp) (a : Addr) (G H : Hp) : Prop where
  s : Same G H
  ga : G a = none
  da : Die H a
  tb : LamX.Tabs T H
  fr : ∀ c o, c ≠ a → (∀ ps, o ≠ .tbl ps) → Hs c = some o → H c = some o
section
variable {T : Tbs} {Hs : Hp} {a : Addr} {G H G' H' : Hp}
theorem die_at {H : Hp} {a : Addr} (d : Die H a) : ∃ o, H a = some o ∧ ∀ ps, o ≠ .tbl ps := let ⟨x, y, q⟩ := d; ⟨_, q, fun _ z => nomatch z⟩
theorem Fw.trans {G1 H1 G2 H2 : Hp} (p : Fw T a G H G1 H1) (q : Fw T a G1 H1 G2 H2) : Fw T a G H G2 H2 :=
  ⟨fun b o h1 h2 h3 => q.h b o h1 h2 (p.h b o h1 h2 h3), p.g.trans q.g, q.s, fun b o h1 h2 h3 => by
    by_cases e : b = a
    · subst e
      obtain ⟨o', e1, e2⟩ := die_at p.d
      exact q.n b o' (p.n b o h1 h2 h3) e1 e2
    · exact q.n b o (p.n b o h1 h2 h3) (p.h b o e h3 h2) h3, q.d, q.t⟩
theorem Wz.refl (w : Wz T Hs a G H) : Fw T a G H G H := ⟨fun _ _ _ _ h => h, Kp.refl, w.s, fun _ _ h _ _ => h, w.da, w.tb⟩
theorem Wz.fw (w : Wz T Hs a G H) (f : Fw T a G H G' H') : Wz T Hs a G' H' := by
  obtain ⟨o', e1, e2⟩ := die_at w.da
  exact ⟨f.s, f.n a o' w.ga e1 e2, f.d, f.t, fun c o h1 h2 h3 => f.h c o h1 h2 (w.fr c o h1 h2 h3)⟩
theorem Wz.ofFr (w : Wz T Hs a G H) (f : Fr G H G' H') : Fw T a G H G' H' := by
  obtain ⟨x, y, q⟩ := w.da
  exact ⟨fun b o _ _ h => f.h b o h, Kp.of f.g, f.s, fun b o h1 h2 _ => f.n b h1 (by rw [h2]; exact fun z => nomatch z), ⟨x, y, f.h _ _ q⟩, w.tb.ext f.h⟩
theorem Wz.ofFm (w : Wz T Hs a G H) (f : Fm a G H G' H') : Fw T a G H G' H' := by
  obtain ⟨x, y, hx⟩ := w.da
  exact ⟨fun b o hb _ h => f.h b o hb h, Kp.of f.g, f.s, fun b o h1 h2 _ => f.n b h1 (by rw [h2]; exact fun z => nomatch z), f.d, tabs_but w.tb hx rfl f.h⟩
theorem Wz.lam (w : Wz T Hs a G H) (e : LamX.ExtN H H') (t : LamX.Tabs T H') : Fw T a G H (noT G) H' := by
  obtain ⟨x, y, hx⟩ := w.da
  refine ⟨fun b o _ h1 h2 => e _ _ h2 h1, kp_noT, fun c o q => ?_, fun b o h1 _ _ => noT_none h1, ⟨x, y, e _ _ hx fun _ z => nomatch z⟩, t⟩
  obtain ⟨q1, q2⟩ := noT_sub q
  exact e _ _ (w.s _ _ q1) q2
theorem Lo.fw {K : PySem.W.Frag} {l : Addr} {ds : List D} (h : Lo K G H l ds) (hl : l ≠ a) (f : Fw T a G H G' H') : Lo K G' H' l ds := by
  obtain ⟨vs, h1, h2⟩ := h.ex
  exact ⟨f.n l _ h.out h1 (fun _ z => nomatch z), vs, f.h l _ hl (fun _ z => nomatch z) h1, h2.kp f.g⟩
end
/-! ### judgements -/
def EvP (X : Cx) (T : Tbs) (a : Addr) (ρ : Ro) (e : Expr) (P : D → Prop) : Prop := ∀ (Hs : Hp) (σ : L2.St) (G H : Hp), Wz T Hs a G H → En X.K G σ ρ → ∀ Q : VK, (∀ v d G' H', Fw T a G H G' H' → Rp X.K G' v d → P d → Q v H') → wE X e σ H Q
def EvPT (X : Cx) (T : Tbs) (a : Addr) (ρ : Ro) (e : Expr) (P : Bool → Prop) : Prop := ∀ (Hs : Hp) (σ : L2.St) (G H : Hp), Wz T Hs a G H → En X.K G σ ρ → ∀ Q : Bool → Hp → Prop, (∀ b G' H', Fw T a G H G' H' → P b → Q b H') → wT X e σ H Q
def EvPA (X : Cx) (T : Tbs) (a : Addr) (ρ : Ro) (es : List Expr) (P : List D → Prop) : Prop := ∀ (Hs : Hp) (σ : L2.St) (G H : Hp), Wz T Hs a G H → En X.K G σ ρ → ∀ Q : List V → Hp → Prop, (∀ vs ds G' H', Fw T a G H G' H' → RpL X.K G' vs ds → P ds → Q vs H') → wA X es σ H Q
section
variable {X : Cx} {T : Tbs} {a : Addr} {ρ : Ro} {e e1 e2 c : Expr} {es : List Expr} {d : D} {ds : List D} {P P1 P2 : D → Prop} {pos p p2 : Pos} {x : Str}
theorem p_of (h : Ev X Nil ρ e d) : EvP X T a ρ e (· = d) := fun Hs σ G H w en Q q => h σ G H same_nil w.s en Q fun v G' H' f r => q v d G' H' (w.ofFr f) r rfl
theorem pt_of {b : Bool} (h : EvT X Nil ρ e b) : EvPT X T a ρ e (· = b) := fun Hs σ G H w en Q q => h σ G H same_nil w.s en Q fun G' H' f => q b G' H' (w.ofFr f) rfl
theorem pa_of (h : EvA X Nil ρ es ds) : EvPA X T a ρ es (· = ds) := fun Hs σ G H w en Q q => h σ G H same_nil w.s en Q fun v G' H' f r => q v ds G' H' (w.ofFr f) r rfl
theorem EvP.imp (h : EvP X T a ρ e P1) (m : ∀ d, P1 d → P2 d) : EvP X T a ρ e P2 := fun Hs σ G H w en Q q => h Hs σ G H w en Q fun v d G' H' f r hp => q v d G' H' f r (m d hp)
theorem EvPT.imp {P1 P2 : Bool → Prop} (h : EvPT X T a ρ e P1) (m : ∀ d, P1 d → P2 d) : EvPT X T a ρ e P2 := fun Hs σ G H w en Q q => h Hs σ G H w en Q fun d G' H' f hp => q d G' H' f (m d hp)
theorem EvPA.imp {P1 P2 : List D → Prop} (h : EvPA X T a ρ es P1) (m : ∀ d, P1 d → P2 d) : EvPA X T a ρ es P2 := fun Hs σ G H w en Q q => h Hs σ G H w en Q fun v d G' H' f r hp => q v d G' H' f r (m d hp)
theorem p_nil : EvPA X T a ρ [] (· = []) := pa_of a_nil
theorem p_cons {P2 : List D → Prop} {P : List D → Prop} (ha : EvP X T a ρ e P1) (hr : EvPA X T a ρ es P2) (hp : ∀ d ds, P1 d → P2 ds → P (d :: ds)) (hs : starEach (e :: es) X.env = (false, eval e X.env) :: starEach es X.env := by rfl) : EvPA X T a ρ (e :: es) P := fun Hs σ G H w en Q q =>
  wA_of (pa_cons pw paw hs) (ha Hs σ G H w en _ fun v d G1 H1 f1 r1 h1 => hr Hs σ G1 H1 (w.fw f1) (en.kp f1.g) _ fun vs ds G2 H2 f2 r2 h2 => q _ (d :: ds) G2 H2 (f1.trans f2) (.cons (r1.kp f2.g) r2) (hp d ds h1 h2))
theorem p_two (ha : EvP X T a ρ e1 P1) (hb : EvP X T a ρ e2 P2) {Hs : Hp} {σ : L2.St} {G H : Hp} (w : Wz T Hs a G H) (en : En X.K G σ ρ) {R : V → V → Hp → Prop} (q : ∀ x y dx dy G' H', Fw T a G H G' H' → Rp X.K G' x dx → Rp X.K G' y dy → P1 dx → P2 dy → R x y H') :
    wE X e1 σ H fun x H1 => wE X e2 σ H1 fun y H2 => R x y H2 :=
  ha Hs σ G H w en _ fun v dv G1 H1 f1 r1 h1 => hb Hs σ G1 H1 (w.fw f1) (en.kp f1.g) _ fun u du G2 H2 f2 r2 h2 => q v u dv du G2 H2 (f1.trans f2) (r1.kp f2.g) r2 h1 h2
theorem p_op {op : Operator} {r : R2} (ho : OpR X (binaryOp op) r) (ha : EvP X T a ρ e1 P1) (hb : EvP X T a ρ e2 P2) (hr : ∀ da db, P1 da → P2 db → ∃ d, P d ∧ Rd2 X.K Nil r da db d) : EvP X T a ρ (.BinOp e1 op e2 pos) P := fun Hs σ G H w en Q q =>
  wE_of (pe_op ho pw pw) (p_two ha hb w en fun x y dx dy G1 H1 f1 r1 r2 h1 h2 => by
    obtain ⟨d, hd, k⟩ := hr dx dy h1 h2
    exact k x y G1 H1 same_nil f1.s r1 r2 Q fun z G3 H3 f3 r3 => q z d G3 H3 (f1.trans ((w.fw f1).ofFr f3)) r3 hd)
theorem p_ix {r : R2} (ho : IxR X r) (ha : EvP X T a ρ e1 P1) (hb : EvP X T a ρ e2 P2) (hr : ∀ da db, P1 da → P2 db → ∃ d, P d ∧ Rd2 X.K Nil r da db d) (hs : PlainIx e2 := by exact fun _ _ => rfl) : EvP X T a ρ (.Subscript e1 e2 pos) P := fun Hs σ G H w en Q q =>
  wE_of (pe_ix ho pw pw hs) (p_two ha hb w en fun x y dx dy G1 H1 f1 r1 r2 h1 h2 => by
    obtain ⟨d, hd, k⟩ := hr dx dy h1 h2
    exact k x y G1 H1 same_nil f1.s r1 r2 Q fun z G3 H3 f3 r3 => q z d G3 H3 (f1.trans ((w.fw f1).ofFr f3)) r3 hd)
theorem pt_cmpP {op : CmpOp} {r : R2} {P : Bool → Prop} (ho : OpR X (compareOp op) r) (ha : EvP X T a ρ e1 P1) (hb : EvP X T a ρ e2 P2) (hr : ∀ da db, P1 da → P2 db → ∃ b, P b ∧ Rd2 X.K Nil r da db (.bl b)) (hm : behindInMarks op e2 = false := by first | exact nomark _ | rfl) : EvPT X T a ρ (.Compare e1 [op] [e2] pos) P := fun Hs σ G H w en Q q =>
  wT_of (pt_cmpR ho pw pw hm) (p_two ha hb w en fun x y dx dy G1 H1 f1 r1 r2 h1 h2 => by
    obtain ⟨b, hd, k⟩ := hr dx dy h1 h2
    exact k x y G1 H1 same_nil f1.s r1 r2 _ fun z G3 H3 f3 r3 => ⟨b, r3.bl_of, q b G3 H3 (f1.trans ((w.fw f1).ofFr f3)) hd⟩)
theorem pt_val' {P : Bool → Prop} (h : EvP X T a ρ e fun d => ∃ b, d = .bl b ∧ P b) (he : ∀ whole, isTrue e X.env whole = (do let v ← whole; standAt e.pos; holding [v] (truthy v)) := by intro _; rfl) : EvPT X T a ρ e P := fun Hs σ G H w en Q q =>
  wT_of (pt_val pw he) (h Hs σ G H w en _ fun v d G1 H1 f1 r1 ⟨b, e, hb⟩ => by
    subst e
    exact ⟨b, r1.bl_of, q b G1 H1 f1 hb⟩)
theorem pt_not' {P : Bool → Prop} (h : EvPT X T a ρ e fun b => P (!b)) : EvPT X T a ρ (.UnaryOp .Not e pos) P := fun Hs σ G H w en Q q => wT_of (pt_not ptw) (h Hs σ G H w en _ fun b G1 H1 f1 hb => q _ G1 H1 f1 hb)
theorem p_tup {k} {P : List D → Prop} (h : EvPA X T a ρ es P) (hz : ∀ ds, P ds → ds.length ≤ 100000) : EvP X T a ρ (.Tuple es k pos) (fun d => ∃ ds, d = .tup ds ∧ P ds) := fun Hs σ G H w en Q q =>
  wE_of (pe_tup paw) (h Hs σ G H w en _ fun vs ds G1 H1 f1 r1 h1 => ⟨by rw [r1.length]; exact Nat.le_trans (hz ds h1) (by decide), fun p hp => q _ (.tup ds) _ _ (f1.trans ((w.fw f1).ofFr (Fr.new f1.s hp))) (.tup (.inl (.inl upd_same)) (r1.up (Same.new (f1.s.free hp)))) ⟨ds, rfl, h1⟩⟩)
theorem p_lst {P : List D → Prop} (h : EvPA X T a ρ es P) (hz : ∀ ds, P ds → ds.length ≤ 100000) : EvP X T a ρ (.List es pos) (fun d => ∃ ds, d = .lst ds ∧ P ds) := fun Hs σ G H w en Q q =>
  wE_of (pe_lst paw) (h Hs σ G H w en _ fun vs ds G1 H1 f1 r1 h1 => ⟨by rw [r1.length]; exact Nat.le_trans (hz ds h1) (by decide), fun p hp => q _ (.lst ds) _ _ (f1.trans ((w.fw f1).ofFr (Fr.new f1.s hp))) (.lst upd_same (r1.up (Same.new (f1.s.free hp)))) ⟨ds, rfl, h1⟩⟩)
/-- a def that leaves the die alone -/
theorem p_call {k : Nat} {R : List D → D → Prop} {PA : List D → Prop} (F : Fn X.prog X.w X.K X.mg X.base x k (spR X.K R)) (hr : Room k X.A) (ha : EvPA X T a ρ (e :: es) PA) (hR : ∀ ds, PA ds → ∃ d, R ds d ∧ P d) (hg : Gl X x := by rfl) (hdb : (x == ("__debug__" : Str)) = false := by decide)
    (he : starEach (e :: es) X.env = (false, eval e X.env) :: starEach es X.env := by rfl) (hpl : (backTo pos (starEach es X.env)).any (·.1) = false := by rfl) : EvP X T a ρ (.Call (.Name x p) (e :: es) [] pos) P := fun Hs σ G H w en Q q => by
  obtain ⟨f, fd, ps, CX, F1, hm, hk, hb, hx⟩ := F.ex
  refine wE_of (pe_call F1 hr hg hm hk hb .nil (hx X rfl rfl) paw hdb he hpl) (ha Hs σ G H w en _ fun vs ds G1 H1 f1 r1 h1 => ?_)
  rw [List.append_nil]
  obtain ⟨d, h2, h3⟩ := hR ds h1
  exact ⟨ds, d, G1, f1.s, r1, h2, fun v G2 H2 f2 r2 => q v d G2 H2 (f1.trans ((w.fw f1).ofFr f2)) r2 h3⟩
/-- tuple(e) -/
theorem p_tuple {P : List D → Prop} (B : Blt X.mg) (h : EvP X T a ρ e (fun d => ∃ ds, d = .lst ds ∧ P ds)) (hg : Gl X "tuple" := by rfl) (he : starEach [e] X.env = (false, eval e X.env) :: starEach [] X.env := by rfl) (hpl : (backTo pos (starEach [] X.env)).any (·.1) = false := by rfl) :
    EvP X T a ρ (.Call (.Name "tuple" p) [e] [] pos) (fun d => ∃ ds, d = .tup ds ∧ P ds) := fun Hs σ G H w en Q q =>
  wE_of (pe_callTy call_tuple_of hg B.tuple_ (by decide +kernel) paw (by decide) (by decide) he hpl) (p_cons (P := fun ds => ∃ d, ds = [d] ∧ ∃ es, d = .lst es ∧ P es) h p_nil (fun d ds h1 h2 => ⟨d, by rw [h2], h1⟩) he Hs σ G H w en _ fun vs ds G1 H1 f1 r1 ⟨d, e1, es, e2, h1⟩ => by
    subst e1
    subst e2
    exact rc_tupL (K := X.K) (H0 := Nil) vs G1 H1 same_nil f1.s r1 Q fun z G3 H3 f3 r3 => q z _ G3 H3 (f1.trans ((w.fw f1).ofFr f3)) r3 ⟨es, rfl, h1⟩)
/-- a def that rolls the die at a -/
def spZ (K : PySem.W.Frag) (R : List D → D → Prop) (Pre : List D → Prop) : Sp := fun vs H Q _ => ∃ (a : Addr) (us : List V) (ds : List D) (G : Hp), vs = .ref a :: us ∧ Same G H ∧ G a = none ∧ Die H a ∧ RpL K G us ds ∧ Pre ds ∧ ∀ v d G' H', Fm a G H G' H' → R ds d → Rp K G' v d → Q v H'
theorem p_callZ {k : Nat} {R : List D → D → Prop} {Pre PA : List D → Prop} {y : Str} {py : Pos} (i : Nat) (F : Fn X.prog X.w X.K X.mg X.base x k (spZ X.K R Pre)) (hr : Room k X.A) (ha : EvPA X T a ρ es PA) (hR : ∀ ds, PA ds → Pre ds ∧ ∀ d, R ds d → P d) (hi : ρ[i]? = some (some (.ref a)) := by rfl) (hg : Gl X x := by rfl) (hdb : (x == ("__debug__" : Str)) = false := by decide)
    (hN : X.N[i]? = some y := by rfl) (hv : Vis X.env.scope y := by first | exact Or.inl rfl | exact Or.inr (Or.inl rfl) | exact Or.inr (Or.inr rfl)) (hd : (y == ("__debug__" : Str)) = false := by decide) (hcd : (y == ("__classdict__" : Str)) = false := by decide)
    (he : starEach (.Name y py :: es) X.env = (false, eval (.Name y py) X.env) :: starEach es X.env := by rfl) (hpl : (backTo pos (starEach es X.env)).any (·.1) = false := by rfl) : EvP X T a ρ (.Call (.Name x p) (.Name y py :: es) [] pos) P := fun Hs σ G H w en Q q => by
  obtain ⟨f, fd, ps, CX, F1, hm, hk, hb, hx⟩ := F.ex
  refine wE_of (pe_call F1 hr hg hm hk hb .nil (hx X rfl rfl) paw hdb he hpl) (p_cons (P := fun ds => ∃ es, ds = .ref a :: es ∧ PA es) (p_of (e_v i hi hN hv hd hcd)) ha (fun d ds h1 h2 => ⟨ds, by rw [h1], h2⟩) he Hs σ G H w en _ fun vs ds G1 H1 f1 r1 h1 => ?_)
  rw [List.append_nil]
  obtain ⟨es, rfl, h1⟩ := h1
  cases r1 with
  | cons ra r1 =>
    obtain rfl := ra.ref_of
    have w1 := w.fw f1
    obtain ⟨h2, h3⟩ := hR es h1
    exact ⟨a, _, es, G1, rfl, w1.s, w1.ga, w1.da, r1, h2, fun v d G2 H2 m2 h4 r2 => q v d G2 H2 (f1.trans (w1.ofFm m2)) r2 (h3 d h4)⟩
/-- _law_roll(dice, e) -/
theorem p_roll {y : Str} {py : Pos} {n : Int} (i : Nat) (F : Fn X.prog X.w X.K X.mg X.base "_law_roll" 2 spRoll) (hr : Room 2 X.A) (ha : EvP X T a ρ e (· = .int n)) (hn : 0 < n ∧ n < 1000000000) (hi : ρ[i]? = some (some (.ref a)) := by rfl) (hg : Gl X "_law_roll" := by rfl)
    (hN : X.N[i]? = some y := by rfl) (hv : Vis X.env.scope y := by first | exact Or.inl rfl | exact Or.inr (Or.inl rfl) | exact Or.inr (Or.inr rfl)) (hd : (y == ("__debug__" : Str)) = false := by decide) (hcd : (y == ("__classdict__" : Str)) = false := by decide)
    (he : starEach [.Name y py, e] X.env = (false, eval (.Name y py) X.env) :: starEach [e] X.env := by rfl) (he2 : starEach [e] X.env = (false, eval e X.env) :: starEach [] X.env := by rfl) (hpl : (backTo pos (starEach [e] X.env)).any (·.1) = false := by rfl) :
    EvP X T a ρ (.Call (.Name "_law_roll" p) [.Name y py, e] [] pos) (fun d => ∃ r : Int, d = .int r ∧ 0 ≤ r ∧ r < n) := fun Hs σ G H w en Q q => by
  obtain ⟨f, fd, ps, CX, F1, hm, hk, hb, hx⟩ := F.ex
  refine wE_of (pe_call F1 hr hg hm hk hb .nil (hx X rfl rfl) paw (by decide) he hpl) (p_cons (P := fun ds => ds = [.ref a, .int n]) (p_of (e_v i hi hN hv hd hcd)) (p_cons (P := fun ds => ds = [.int n]) ha p_nil (fun d ds h1 h2 => by rw [h1, h2]) he2) (fun d ds h1 h2 => by rw [h1, h2]) he Hs σ G H w en _ fun vs ds G1 H1 f1 r1 h1 => ?_)
  rw [List.append_nil]
  subst h1
  cases r1 with
  | cons ra r1 =>
    cases r1 with
    | cons rb r1 =>
      cases r1
      obtain rfl := ra.ref_of
      obtain rfl := rb.int_of
      have w1 := w.fw f1
      exact ⟨a, n, rfl, hn.1, hn.2, w1.da, fun r H2 h0 h2 fd2 => q _ (.int r) G1 H2 (f1.trans (w1.ofFm (fd2.m w1.ga w1.s))) (.int r) ⟨r, rfl, h0, h2⟩⟩
/-- _law_family(dice, e) -/
theorem p_fam {y : Str} {py : Pos} {Pn : Int → Prop} (i : Nat) (F : Fn X.prog X.w X.K X.mg X.base "_law_family" 3 (spFam X.K)) (hr : Room 3 X.A) (ha : EvP X T a ρ e (fun d => ∃ n, d = .int n ∧ Pn n)) (hn : ∀ n, Pn n → 2 ≤ n ∧ n ≤ 5) (hi : ρ[i]? = some (some (.ref a)) := by rfl) (hg : Gl X "_law_family" := by rfl)
    (hN : X.N[i]? = some y := by rfl) (hv : Vis X.env.scope y := by first | exact Or.inl rfl | exact Or.inr (Or.inl rfl) | exact Or.inr (Or.inr rfl)) (hd : (y == ("__debug__" : Str)) = false := by decide) (hcd : (y == ("__classdict__" : Str)) = false := by decide)
    (he : starEach [.Name y py, e] X.env = (false, eval (.Name y py) X.env) :: starEach [e] X.env := by rfl) (he2 : starEach [e] X.env = (false, eval e X.env) :: starEach [] X.env := by rfl) (hpl : (backTo pos (starEach [e] X.env)).any (·.1) = false := by rfl) :
    EvP X T a ρ (.Call (.Name "_law_family" p) [.Name y py, e] [] pos) (fun d => ∃ n f, d = dFam n f ∧ Pn n ∧ FamOk n f) := fun Hs σ G H w en Q q => by
  obtain ⟨f, fd, ps, CX, F1, hm, hk, hb, hx⟩ := F.ex
  refine wE_of (pe_call F1 hr hg hm hk hb .nil (hx X rfl rfl) paw (by decide) he hpl) (p_cons (P := fun ds => ∃ n, ds = [.ref a, .int n] ∧ Pn n) (p_of (e_v i hi hN hv hd hcd)) (p_cons (P := fun ds => ∃ n, ds = [.int n] ∧ Pn n) ha p_nil (fun d ds h1 h2 => by obtain ⟨n, h1, h3⟩ := h1; exact ⟨n, by rw [h1, h2], h3⟩) he2) (fun d ds h1 h2 => by obtain ⟨n, h2, h3⟩ := h2; exact ⟨n, by rw [h1, h2], h3⟩) he Hs σ G H w en _ fun vs ds G1 H1 f1 r1 h1 => ?_)
  rw [List.append_nil]
  obtain ⟨n, rfl, hp⟩ := h1
  cases r1 with
  | cons ra r1 =>
    cases r1 with
    | cons rb r1 =>
      cases r1
      obtain rfl := ra.ref_of
      obtain rfl := rb.int_of
      have w1 := w.fw f1
      obtain ⟨n2, n5⟩ := hn n hp
      exact ⟨a, n, G1, rfl, n2, n5, w1.s, w1.ga, w1.da, fun v ks G2 H2 m2 raw r2 => q v _ G2 H2 (f1.trans (w1.ofFm m2)) r2 ⟨n, _, rfl, hp, raw_ok n2 n5 raw⟩⟩
end
/-- the source of a loop of the law's level -/
def EvJ (X : Cx) (ρ : Ro) (iter : Expr) (ds : List D) : Prop := ∃ wi : TI, (∀ tg, PI X tg iter wi) ∧ ∀ (σ : L2.St) (G H : Hp), Same G H → En X.K G σ ρ → ∀ R : It → Hp → Prop,
  (∀ (J : It) (G1 H1 : Hp), Fr G H G1 H1 → (∀ (i : Nat) (G2 H2 : Hp), Kp G1 G2 → Same G2 H2 → (ds.length ≤ i → J.stop i H2) ∧ (∀ d, ds[i]? = some d → J.go i H2 ∧ ∀ x H3, J.yld i H2 x H3 → ∃ G3, Fr G2 H2 G3 H3 ∧ Rp X.K G3 x d)) → R J H1) → wi σ H R
section
variable {X : Cx} {ρ : Ro} {iter a : Expr} {ds : List D} {pos p : Pos}
theorem EvJ.is {ds' : List D} (h : EvJ X ρ iter ds) (e : ds = ds') : EvJ X ρ iter ds' := e ▸ h
theorem j_tup (h : Ev X Nil ρ iter (.tup ds)) : EvJ X ρ iter ds := by
  refine ⟨iTup X.K (wE X iter), fun tg => pi_tup pw, fun σ G H sh en R q => h σ G H same_nil sh en _ fun v G1 H1 f1 r1 => ?_⟩
  obtain ⟨a, xs, e, hs, r⟩ := r1.tup_of
  refine ⟨a, e, ⟨xs, Same.sqT f1.s hs⟩, q _ G1 H1 f1 fun i G2 H2 s12 s2 => ⟨fun hl => ⟨xs, Same.sqT s2 (Kp.sqT s12 hs), by rw [r.length]; exact hl⟩, fun d hd => ?_⟩⟩
  obtain ⟨v2, hv, rv⟩ := r.get hd
  exact ⟨⟨xs, v2, Same.sqT s2 (Kp.sqT s12 hs), hv⟩, fun x H3 y => ⟨G2, by
    rw [y.1]
    exact Fr.refl s2, by
    have := y.2 xs (Same.sqT s2 (Kp.sqT s12 hs))
    rw [hv] at this
    cases this
    exact rv.kp s12⟩⟩
theorem j_lst (h : Ev X Nil ρ iter (.lst ds)) : EvJ X ρ iter ds := by
  refine ⟨iList X.K (wE X iter), fun tg => pi_list pw, fun σ G H sh en R q => h σ G H same_nil sh en _ fun v G1 H1 f1 r1 => ?_⟩
  obtain ⟨a, xs, e, hs, r⟩ := r1.lst_of
  refine ⟨a, e, ⟨xs, SqL.of (f1.s _ _ hs)⟩, q _ G1 H1 f1 fun i G2 H2 s12 s2 => ⟨fun hl => ⟨xs, SqL.of (s2 _ _ (s12 _ _ hs rfl)), by rw [r.length]; exact hl⟩, fun d hd => ?_⟩⟩
  obtain ⟨v2, hv, rv⟩ := r.get hd
  exact ⟨⟨xs, v2, SqL.of (s2 _ _ (s12 _ _ hs rfl)), hv⟩, fun x H3 y => ⟨G2, by
    rw [y.1]
    exact Fr.refl s2, by
    have := y.2 xs (SqL.of (s2 _ _ (s12 _ _ hs rfl)))
    rw [hv] at this
    cases this
    exact rv.kp s12⟩⟩
theorem j_range1 {n : Int} (hm : X.mg "range" = none) (h : Ev X Nil ρ a (.int n)) (hn : -1000000 ≤ n ∧ n ≤ 1000000) (hg : Gl X "range" := by rfl) (hs : starEach [a] X.env = [(false, eval a X.env)] := by rfl) (hs2 : starEach [a] X.env = (false, eval a X.env) :: starEach [] X.env := by rfl) :
    EvJ X ρ (.Call (.Name "range" p) [a] [] pos) ((List.range n.toNat).map fun (i : Nat) => D.int (i : Int)) := by
  refine ⟨iRng1 (wA X [a]), fun tg => pi_range1 hg hm paw hs, fun σ G H sh en R q => a_cons h a_nil hs2 σ G H same_nil sh en _ fun vs G1 H1 f1 r1 => ?_⟩
  cases r1 with
  | cons r1 r2 =>
    cases r2
    obtain rfl := r1.int_of
    refine ⟨n, rfl, by omega, by omega, q _ G1 H1 f1 fun i G2 H2 s12 s2 => ⟨fun hl => ?_, fun d hd => ?_⟩⟩
    · rw [List.length_map, List.length_range] at hl
      exact hl
    · rw [List.getElem?_map] at hd
      by_cases hi : i < n.toNat
      · rw [List.getElem?_range hi] at hd
        cases hd
        refine ⟨hi, fun x H3 y => ⟨G2, by rw [y.1]; exact Fr.refl s2, ?_⟩⟩
        rw [y.2, Int.zero_add]
        exact .int _
      · rw [List.getElem?_eq_none (by rw [List.length_range]; omega)] at hd
        cases hd
end
/-! ### statements -/
section
variable {X : Cx} {T : Tbs} {Hs : Hp} {a : Addr} {ρ : Ro} {e c : Expr} {P : D → Prop} {pos p : Pos} {x : Str} {σ : L2.St} {G H : Hp} {rest sa sb : List Stmt} {N : Ends}
theorem z_asg (i : Nat) (h : EvP X T a ρ e P) (w : Wz T Hs a G H) (en : En X.K G σ ρ) (k : ∀ d, P d → ∀ σ' G' H', Fw T a G H G' H' → Wz T Hs a G' H' → En X.K G' σ' (ρ.set i (some d)) → wB X rest N σ' H') (hN : X.N.Nodup := by assumption) (hi : X.N[i]? = some x := by rfl)
    (hx : Loc X.env.scope x := by first | exact Or.inl rfl | exact Or.inr rfl) (hs : swapsWith e (some (.Name x p)) pos.line X.env = pure false := by rfl) (hf : X.fn x = true ∨ X.env.scope.names.lookup x = some .local := by first | exact .inl rfl | exact .inr rfl | assumption) :
    wB X (.Assign [.Name x p] e pos :: rest) N σ H :=
  wB_cons (wS_of (ps_set hN hi hx pw hs hf) (h Hs σ G H w en _ fun v d G1 H1 f1 r1 hp => k d hp _ G1 H1 f1 (w.fw f1) ((en.kp f1.g).set i r1)))
/-- a, b = e1, e2 -/
theorem z_par {y : Str} {px py pt : Pos} {kt k2 pt2} {e1 e2 : Expr} {P1 P2 : D → Prop} (i j : Nat) (h1 : EvP X T a ρ e1 P1) (h2 : EvP X T a ρ e2 P2) (w : Wz T Hs a G H) (en : En X.K G σ ρ) (k : ∀ d1 d2, P1 d1 → P2 d2 → ∀ σ' G' H', Fw T a G H G' H' → Wz T Hs a G' H' → En X.K G' σ' ((ρ.set i (some d1)).set j (some d2)) → wB X rest N σ' H')
    (hN : X.N.Nodup := by assumption) (hi : X.N[i]? = some x := by rfl) (hj : X.N[j]? = some y := by rfl) (hij : i ≠ j := by decide) (hx : X.env.scope.names.lookup x = some .local := by rfl) (hy : X.env.scope.names.lookup y = some .local := by rfl)
    (hw : swappedStores [.Tuple [.Name x px, .Name y py] kt pt] (.Tuple [e1, e2] k2 pt2) X.env = pure (some [x, y]) := by rfl) (hs : swapsWithSole [.Tuple [.Name x px, .Name y py] kt pt] (.Tuple [e1, e2] k2 pt2) pos.line X.env = pure false := by rfl) (hc : X.calm = true := by rfl)
    (he : starEach [e1, e2] X.env = (false, eval e1 X.env) :: starEach [e2] X.env := by rfl) (he2 : starEach [e2] X.env = (false, eval e2 X.env) :: starEach [] X.env := by rfl) :
    wB X (.Assign [.Tuple [.Name x px, .Name y py] kt pt] (.Tuple [e1, e2] k2 pt2) pos :: rest) N σ H :=
  wB_cons (wS_of (ps_par hc hN hi hj hij hx hy (pa_cons pw (pa_cons pw pa_nil he2) he) hw hs) (p_two h1 h2 w en fun x y dx dy G1 H1 f1 r1 r2 q1 q2 => ⟨_, _, rfl, k dx dy q1 q2 _ G1 H1 f1 (w.fw f1) (((en.kp f1.g).set i r1).set j r2)⟩))
theorem z_if {P : Bool → Prop} (h : EvPT X T a ρ c P) (w : Wz T Hs a G H) (en : En X.K G σ ρ) (kt : P true → ∀ G' H', Fw T a G H G' H' → Wz T Hs a G' H' → En X.K G' σ ρ → wB X sa { N with nx := wB X rest N } σ H') (kf : P false → ∀ G' H', Fw T a G H G' H' → Wz T Hs a G' H' → En X.K G' σ ρ → wB X sb { N with nx := wB X rest N } σ H') :
    wB X (.If c sa sb pos :: rest) N σ H :=
  wB_cons (wS_of (ps_if ptw pbw pbw) (h Hs σ G H w en _ fun b G1 H1 f1 hb => by
    cases b with
    | true => exact kt hb G1 H1 f1 (w.fw f1) (en.kp f1.g)
    | false => exact kf hb G1 H1 f1 (w.fw f1) (en.kp f1.g)))
theorem z_when {P : Bool → Prop} (h : EvPT X T a ρ c P) (w : Wz T Hs a G H) (en : En X.K G σ ρ) (kt : P true → ∀ G' H', Fw T a G H G' H' → Wz T Hs a G' H' → En X.K G' σ ρ → wB X sa { N with nx := wB X rest N } σ H') (kf : P false → ∀ G' H', Fw T a G H G' H' → Wz T Hs a G' H' → En X.K G' σ ρ → wB X rest N σ H') :
    wB X (.If c sa [] pos :: rest) N σ H := z_if h w en kt fun hb G1 H1 f1 w1 en1 => wB_nil (kf hb G1 H1 f1 w1 en1)
/-- a check that is met -/
theorem z_pass (h : EvPT X T a ρ c (· = false)) (w : Wz T Hs a G H) (en : En X.K G σ ρ) (kf : ∀ G' H', Fw T a G H G' H' → Wz T Hs a G' H' → En X.K G' σ ρ → wB X rest N σ H') : wB X (.If c sa [] pos :: rest) N σ H := z_when h w en (fun z => nomatch z) fun _ => kf
theorem z_ret (h : EvP X T a ρ e P) (w : Wz T Hs a G H) (en : En X.K G σ ρ) (k : ∀ v d G' H', Fw T a G H G' H' → Rp X.K G' v d → P d → N.rt v H') : wB X (.Return (some e) pos :: rest) N σ H :=
  wB_cons (wS_of (ps_ret pw) (h Hs σ G H w en _ k))
/-- for x in iter, by a word over the turn and the slots -/
theorem z_for {α : Type} {iter : Expr} {body : List Stmt} {px : Pos} (j : Nat) (enc : α → D) (xs : List α) (J : Nat → Ro → Hp → Hp → Prop) (src : EvJ X ρ iter (xs.map enc)) (w : Wz T Hs a G H) (en : En X.K G σ ρ)
    (h0 : ∀ G1 H1, Fw T a G H G1 H1 → J 0 ρ G1 H1)
    (hs : ∀ i x ρ' σ' G' H' G3 H3, xs[i]? = some x → J i ρ' G' H' → Fw T a G' H' G3 H3 → Wz T Hs a G3 H3 → En X.K G3 σ' (ρ'.set j (some (enc x))) →
      wB X body { N with nx := fun σ2 H2 => ∃ ρ2 G2, Kp G' G2 ∧ Wz T Hs a G2 H2 ∧ En X.K G2 σ2 ρ2 ∧ J (i + 1) ρ2 G2 H2, ct := fun σ2 H2 => ∃ ρ2 G2, Kp G' G2 ∧ Wz T Hs a G2 H2 ∧ En X.K G2 σ2 ρ2 ∧ J (i + 1) ρ2 G2 H2, bk := wB X rest N } σ' H3)
    (hd : ∀ ρ' σ' G' H', J xs.length ρ' G' H' → Wz T Hs a G' H' → En X.K G' σ' ρ' → wB X rest N σ' H') (hN : X.N.Nodup := by assumption)
    (g1 : PG X (.Name x px) (gName j) := by first | exact pg_name (by assumption) rfl (Or.inl rfl) | exact pg_name (by assumption) rfl (Or.inr rfl)) (hp : PassesOwn (model X.prog X.w) X.A X.env X.xe := by exact PassesOwn.never) (hc : X.calm = true := by rfl) (hf : ∀ x, foldedSetIterable iter X.env x = pure x := by intro _; rfl) :
    wB X (.For (.Name x px) iter body [] pos :: rest) N σ H := by
  obtain ⟨wi, hpi, hw⟩ := src
  refine wB_cons (wS_of (ps_for hp hc (hpi _) g1 pbw hf) (hw σ G H w.s en _ fun It G1 H1 f1 hJ => ?_))
  refine ⟨fun i m σ' H' => m = xs.length - i ∧ i ≤ xs.length ∧ ∃ ρ' G', Kp G1 G' ∧ Wz T Hs a G' H' ∧ En X.K G' σ' ρ' ∧ J i ρ' G' H', ⟨xs.length, by simp, Nat.zero_le _, ρ, G1, Kp.refl, w.fw (w.ofFr f1), en.up f1.g, h0 G1 H1 (w.ofFr f1)⟩, ?_⟩
  rintro i m σ' H' ⟨rfl, hi, ρ', G', s1, w', en', q⟩
  obtain ⟨k1, k2⟩ := hJ i G' H' s1 w'.s
  by_cases hlt : i < xs.length
  · have hx : xs[i]? = some xs[i] := List.getElem?_eq_getElem hlt
    obtain ⟨go, yl⟩ := k2 (enc xs[i]) (by rw [List.getElem?_map, hx]; rfl)
    refine .inr ⟨go, fun σ2 H2 => ∃ ρ2 G2, Kp G' G2 ∧ Wz T Hs a G2 H2 ∧ En X.K G2 σ2 ρ2 ∧ J (i + 1) ρ2 G2 H2, fun σ2 H2 ⟨ρ2, G2, a1, a2, a3, a4⟩ => ⟨xs.length - (i + 1), by omega, rfl, hlt, ρ2, G2, s1.trans a1, a2, a3, a4⟩, fun x H3 y => ?_⟩
    obtain ⟨G3, f3, rx⟩ := yl x H3 y
    have fw3 := w'.ofFr f3
    exact hs i xs[i] ρ' _ G' H' G3 H3 hx q fw3 (w'.fw fw3) ((en'.up f3.g).set j rx)
  · have e : i = xs.length := by omega
    subst e
    exact .inl ⟨k1 (by rw [List.length_map]; exact Nat.le_refl _), hd ρ' σ' G' H' q w' en'⟩
end

end G9
namespace G9
open PySem PySem.Spec PyProof.Rows L2 G9S
/-! ### _law_term(e): which exception it is -/
open L2H HotX
section
variable {P : Program} {w : World} {K : PySem.W.Frag} {mg : Str → Option Value} {base : Heap}
def kinds8 : List Str := ["InvalidFamily", "InvalidRule", "InvalidWorths", "InvalidShare", "InvalidThings", "InvalidText", "TooMany", "NothingToUndo"]
/-- the eight classes, apart from each other -/
structure Ex8 (K : PySem.W.Frag) (mg : Str → Option Value) (c : Nat → Addr) : Prop where
  m0 : mg "InvalidFamily" = some (.ref (c 0))
  m1 : mg "InvalidRule" = some (.ref (c 1))
  m2 : mg "InvalidWorths" = some (.ref (c 2))
  m3 : mg "InvalidShare" = some (.ref (c 3))
  m4 : mg "InvalidThings" = some (.ref (c 4))
  m5 : mg "InvalidText" = some (.ref (c 5))
  m6 : mg "TooMany" = some (.ref (c 6))
  m7 : mg "NothingToUndo" = some (.ref (c 7))
  mv : mg "ValueError" = none
  exc : ∀ i, i < 8 → ExcC K (c i)
  kit : ∀ i j, i < 8 → j < 8 → PySem.W.kitOne K (.ref (c i)) (.ref (c j)) = some (decide (i = j))
  kitV : ∀ i, i < 8 → PySem.W.kitOne K (.ref (c i)) (.type "ValueError") = some true
def spTerm (K : PySem.W.Frag) (c : Nat → Addr) : Addr × Obj → Sp := fun p vs H Q _ => ∃ (i : Nat) (nm : Str) (G : Hp), vs = [.ref p.1] ∧ i < 8 ∧ kinds8[i]? = some nm ∧ Zc (.ref (c i)) none p.2 ∧ Same G H ∧ ∀ v G' H', Fr G H G' H' → Rp K G' v (.tup [.str "error", .str nm]) → Q v H'
theorem sc_law_term : FnScope ["e", "flags", "kinds", "flag"] ["e"] (defScope s_law_term) := ⟨rfl, rfl, rfl, by decide +kernel, rfl, by decide +kernel, by decide +kernel⟩
theorem rc_isE {D a : Addr} {H0 : Hp} {C : Addr} {b : Bool} (hk : PySem.W.kitOne K (.ref D) (.ref C) = some b) : RdC K H0 (rIsE K D a) [.ref a, .ref C] (.bl b) := fun xs G H _ s r Q q => by
  cases r with
  | cons r1 r =>
    cases r with
    | cons r2 r =>
      cases r
      rw [r1.ref_of, r2.ref_of]
      exact ⟨.ref C, .ref C, b, rfl, fun u hu => by cases hu; rfl, hk, q _ _ _ (Fr.refl s) (.bl b)⟩
theorem rc_isEt {D a : Addr} {H0 : Hp} {C : String} {b : Bool} (hk : PySem.W.kitOne K (.ref D) (.type C) = some b) : RdC K H0 (rIsE K D a) [.ref a, .ty C] (.bl b) := fun xs G H _ s r Q q => by
  cases r with
  | cons r1 r =>
    cases r with
    | cons r2 r =>
      cases r
      rw [r1.ref_of]
      cases r2
      exact ⟨.ty C, .type C, b, rfl, fun u hu => hu, hk, q _ _ _ (Fr.refl s) (.bl b)⟩
theorem rc_intB {H0 : Hp} {k : Bool} : RdC K H0 (fun xs H Q => (∃ i, xs = [.int i] ∧ Q (.int i) H) ∨ ∃ k, xs = [.bl k] ∧ Q (.int (if k then 1 else 0)) H) [.bl k] (.int (if k then 1 else 0)) := fun xs G H _ s r Q q => by
  cases r with
  | cons r1 r =>
    cases r
    rw [r1.bl_of]
    exact .inr ⟨k, rfl, q _ _ _ (Fr.refl s) (.int _)⟩
/-- l.index(True) -/
theorem e_indexT {X : Cx} {H0 : Hp} {ρ : Ro} {o : Expr} {pa p1 pb : Pos} {jb : Nat} {bs : List Bool} {j : Nat} (h : Ev X H0 ρ o (.lst (bs.map D.bl))) (hj : bs[j]? = some true) (hm : ∀ m, m < j → bs[m]? ≠ some true)
    (pe : PE X (.Call (.Attribute o "index" pa) [.Constant (.bool true) jb pb] [] p1) (tBM X.K "list" (rIndex X.K) (wE X o) (wA X [.Constant (.bool true) jb pb])) := by exact pe_bm PySem.F.plainAttrs_list PySem.F.slot_list_index PySem.F.type_list_index mt_index pw paw)
    (hs2 : starEach [.Constant (.bool true) jb pb] X.env = (false, eval (.Constant (.bool true) jb pb) X.env) :: starEach [] X.env := by rfl) : Ev X H0 ρ (.Call (.Attribute o "index" pa) [.Constant (.bool true) jb pb] [] p1) (.int (j : Int)) := fun σ G H sg sh en Q q => by
  refine wE_of pe (h σ G H sg sh en _ fun v G1 H1 f1 r1 => ?_)
  obtain ⟨a, xs, rfl, hs, r⟩ := r1.lst_of
  obtain rfl := r.bls_of
  refine ⟨.inl ⟨rfl, _, SqL.of (f1.s _ _ hs)⟩, a_cons e_bl a_nil hs2 σ G1 H1 (sg.trans f1.g) f1.s (en.up f1.g) _ fun ws G2 H2 f2 r2 => ?_⟩
  cases r2 with
  | cons r2 r3 =>
    cases r3
    rw [r2.bl_of]
    refine ⟨a, _, .bl true, j, .bl true, rfl, rfl, SqL.of (f2.h _ _ (f1.s _ _ hs)), rfl, ?_, ?_, rfl, fun m z hmj hz => ?_, q _ _ _ (f1.trans f2) (.int _)⟩
    · rw [List.all_eq_true]
      intro x hx
      obtain ⟨b, _, rfl⟩ := List.mem_map.mp hx
      rfl
    · rw [List.getElem?_map, hj]
      rfl
    · rw [List.getElem?_map] at hz
      cases e : bs[m]? with
      | none => rw [e] at hz; cases hz
      | some b =>
        rw [e] at hz
        cases hz
        cases b with
        | false => rfl
        | true => exact absurd e (hm m hmj)
theorem ok_law_term {f : Addr} {fd : FuncData} {c : Nat → Addr} (F : Fun K "_law_term" "_law_term" s_law_term f fd) (B : Blt mg) (X8 : Ex8 K mg c) : FnT P w K mg base 1 f fd ["e"] (spTerm K c) := by
  refine fn_ofT F sc_law_term (fun p vs H Q E h => by obtain ⟨i, nm, G, rfl, _⟩ := h; rfl) fun cdv A outer s H vs Q E p hot1 hr h => ?_
  obtain ⟨i, nm, G, rfl, hi, hnm, hz, sh, q⟩ := h
  have hN := sc_law_term.nd
  have hot : HotI (cxH CX0 P w K mg base ["e", "flags", "kinds", "flag"] "_law_term" (defScope s_law_term) f cdv A outer s H E p) p := hotI_fn hot1
  have isE : ∀ {H0 : Hp} {ρ : Ro} {x : Str} {j : Nat} {pe px p1 p2 : Pos}, ρ[0]? = some (some (.ref p.1)) → mg x = some (.ref (c j)) → j < 8 → Gl (cxH CX0 P w K mg base ["e", "flags", "kinds", "flag"] "_law_term" (defScope s_law_term) f cdv A outer s H E p) x → (x == ("__debug__" : Str)) = false →
      Ev (cxH CX0 P w K mg base ["e", "flags", "kinds", "flag"] "_law_term" (defScope s_law_term) f cdv A outer s H E p) H0 ρ (.Call (.Name "isinstance" p1) [.Name "e" pe, .Name x px] [] p2) (.bl (decide (i = j))) := fun {H0 ρ x j pe px p1 p2} h0 hm hj hg hd =>
    e_callB (call_isI hot (X8.exc i hi) hz) B.isinstance_ (a_cons (e_v 0 h0) (a_cons (e_glob hm (v := .ref (c j)) rfl (fun _ => .ref (c j)) hg hd) a_nil)) (rc_isE (X8.kit i j hi hj))
  have en0 : En K G (L2.start ["e", "flags", "kinds", "flag"] [.ref p.1]) [some (.ref p.1), none, none, none] := en_start (N := ["e", "flags", "kinds", "flag"]) (ds := [.ref p.1]) (.cons (.ref p.1) .nil)
  refine s_asg 1 (l_lst (a_cons (isE rfl X8.m0 (by decide) rfl (by decide)) (a_cons (isE rfl X8.m1 (by decide) rfl (by decide)) (a_cons (isE rfl X8.m2 (by decide) rfl (by decide)) a_nil))) (by show 3 ≤ 100000; decide)).ev same_nil sh en0 fun σ1 G1 H1 f1 en1 => ?_
  refine s_asg 1 (l_op op_cat (e_v 1) (l_lst (a_cons (isE rfl X8.m3 (by decide) rfl (by decide)) (a_cons (isE rfl X8.m4 (by decide) rfl (by decide)) (a_cons (isE rfl X8.m5 (by decide) rfl (by decide)) a_nil))) (by show 3 ≤ 100000; decide)).ev (rd_cat (by show 6 ≤ 100000; decide))).ev same_nil f1.s en1 fun σ2 G2 H2 f2 en2 => ?_
  refine s_asg 1 (l_op op_cat (e_v 1) (l_lst (a_cons (isE rfl X8.m6 (by decide) rfl (by decide)) (a_cons (isE rfl X8.m7 (by decide) rfl (by decide)) a_nil)) (by show 2 ≤ 100000; decide)).ev (rd_cat (by show 8 ≤ 100000; decide))).ev same_nil f2.s en2 fun σ3 G3 H3 f3 en3 => ?_
  refine s_asg 2 (l_lst (a_cons e_str (a_cons e_str (a_cons e_str (a_cons e_str (a_cons e_str (a_cons e_str a_nil))))))).ev same_nil f3.s en3 fun σ4 G4 H4 f4 en4 => ?_
  refine s_asg 2 (l_op op_cat (e_v 2) (l_lst (a_cons e_str (a_cons e_str a_nil))).ev (rd_cat (by show 8 ≤ 100000; decide))).ev same_nil f4.s en4 fun σ5 G5 H5 f5 en5 => ?_
  have en5 : En K G5 σ5 [some (.ref p.1), some (.lst (((List.range 8).map fun j => decide (i = j)).map D.bl)), some (.lst (kinds8.map D.str)), none] := en5
  have hsum : (((List.range 8).map fun j => decide (i = j)).map fun b => if b then (1 : Int) else 0).sum = 1 := by
    rcases (by omega : i = 0 ∨ i = 1 ∨ i = 2 ∨ i = 3 ∨ i = 4 ∨ i = 5 ∨ i = 6 ∨ i = 7) with rfl | rfl | rfl | rfl | rfl | rfl | rfl | rfl <;> decide
  refine s_when (b := false) ((t_or2 (t_cmp op_ne (e_callB (cr_sumI hot) B.sum_ (a_cons ((l_lcI hot 3 D.bl ((List.range 8).map fun j => decide (i = j)) (fun b => D.int (if b then 1 else 0)) (e_v 1) (by simp) fun b hb _ _ _ _ _ => e_callT call_int1 B.int_ (a_cons (e_v 3) a_nil) rc_intB).is (d' := (((List.range 8).map fun j => decide (i = j)).map fun b => if b then (1 : Int) else 0).map D.int) (by rw [List.map_map]; rfl)).ev a_nil) rc_sum) e_int rd_neI) fun _ => t_not (t_val (e_callB (call_isI hot (X8.exc i hi) hz) B.isinstance_ (a_cons (e_v 0) (a_cons (e_ty X8.mv) a_nil)) (rc_isEt (X8.kitV i hi))))).is (by rw [hsum]; rfl)) same_nil f5.s en5 (fun hb => nomatch hb) fun _ G6 H6 f6 en6 => ?_
  refine s_ret (d := .tup [.str "error", .str nm]) (e_tup (a_cons e_str (a_cons (e_ix ix_list (e_v 2) (e_indexT (j := i) (e_v 1) ?_ ?_) (rd_ixL ?_)) a_nil)) (by show 2 ≤ 100000; decide)) same_nil f6.s en6 fun v G7 H7 f7 r7 => q v G7 H7 ((((((f1.trans f2).trans f3).trans f4).trans f5).trans f6).trans f7) r7
  · rw [List.getElem?_map, List.getElem?_range hi]
    simp
  · intro m hm
    rw [List.getElem?_map, List.getElem?_range (by omega)]
    simp
    omega
  · refine atI_nat ?_
    rw [List.getElem?_map, hnm]
    rfl
end

end G9
namespace G9
open PySem PySem.Spec PyProof.Rows L2 G9S
/-! ### _law_told(lambda: ..), where a PickError may be raised -/
open L2H HotX
section
/-- what is told of an exception: its class's name -/
def toldE (K : PySem.W.Frag) (c : Nat → Addr) (Q : VK) : XK := fun cls d H' => ∃ (i : Nat) (nm : Str) (G : Hp), i < 8 ∧ kinds8[i]? = some nm ∧ cls = .ref (c i) ∧ d = none ∧ Same G H' ∧ ∀ v G' H'', Fr G H' G' H'' → Rp K G' v (.tup [.str "error", .str nm]) → Q v H''
theorem sc_law_toldx : FnScope ["deed", "e"] ["deed"] (defScope s_law_told) := ⟨rfl, rfl, rfl, by decide +kernel, rfl, by decide +kernel, by decide +kernel⟩
structure ToldTx (P : Program) (w : World) (K : PySem.W.Frag) (mg : Str → Option Value) (base : Heap) (c : Nat → Addr) (g CS ft : Addr) (fdt fdr : FuncData) : Prop where
  f : Fun K "_law_told" "_law_told" s_law_told g fdt
  b : Binds K fdt ["deed"] []
  m : mg "_law_told" = some (.ref g)
  e : mg "PickError" = some (.ref CS)
  ex : ∀ i, i < 8 → PySem.W.exmOne K (.ref (c i)) (.ref CS) = some true
  t : FnT P w K mg base 1 ft fdr ["e"] (spTerm K c)
  tm : mg "_law_term" = some (.ref ft)
  tk : PySem.W.keepIn K (.ref ft) = true
  tb : Binds K fdr ["e"] []
variable {X : Cx}
theorem told_gives {c : Nat → Addr} {g CS ft : Addr} {fdt fdr : FuncData} {cdg : Value} {q : Str} {k : Nat} (T : ToldTx X.prog X.w X.K X.mg X.base c g CS ft fdt fdr) (hk : 1 ≤ k) :
    GivesN X k ["deed", "e"] "_law_told" (defScope s_law_told) g cdg (defBody s_law_told) "deed" q (fun tl H Q => tl (toldE X.K c Q) H Q) := by
  intro f c' s H Q tl hr act hc h
  refine ⟨_, pss_one (L2N.ps_try_as (X := (cxOf C8.CX0 X.prog X.w X.K X.mg X.base ["deed", "e"] "_law_told" (defScope s_law_told) g cdg X.A X.stack s H C8.E0).nox) (c := .ref CS) (i := 1) (Wout := fun _ _ _ _ => False)
      (tb := fun W D σ H => ∃ Ech : XK, (∀ cls d σ' H', Ech cls d H' → W cls d σ' H') ∧ σ[0]? = some (some (.ref f)) ∧ H c' = some (LamX.CodeO c' q) ∧ tl Ech H D.rt)
      (ts := fun a cls d D σ H => ∃ (i : Nat) (nm : Str) (G : Hp), i < 8 ∧ kinds8[i]? = some nm ∧ cls = .ref (c i) ∧ d = none ∧ Same G H ∧ (∃ σ', σ = List.set σ' 1 (some (.ref a))) ∧ ∀ v G' H', Fr G H G' H' → Rp X.K G' v (.tup [.str "error", .str nm]) → D.rt v H')
      rfl rfl sc_law_toldx.nd rfl rfl ⟨rfl, by decide, .inl T.e⟩ takes0N (fun W pn xe tk _ => ?_) (fun a oe cls d pn hz hv => ?_)), ?_⟩
  · refine ⟨fun pins s' σ H' D I h' => ?_⟩
    obtain ⟨Ech, hW, h1, h2, h3⟩ := h'
    exact (pss_one (ps_ret (act W pn xe Ech _ _ tk hW))).run pins s' σ H' D I ⟨h1, h2, h3⟩
  · refine ⟨fun pins s' σ H' D I h' => ?_⟩
    obtain ⟨i, nm, G, hi, hnm, rfl, rfl, sh, ⟨σ', rfl⟩, hq⟩ := h'
    have hlen : (List.set σ' 1 (some (V.ref a))).length = 2 := I.len
    have hσ : (List.set σ' 1 (some (V.ref a)))[1]? = some (some (.ref a)) := List.getElem?_set_self (by rw [List.length_set] at hlen; omega)
    obtain ⟨vs, hvs⟩ := hv
    have hot1 : Hot1 ((cxOf C8.CX0 X.prog X.w X.K X.mg X.base ["deed", "e"] "_law_told" (defScope s_law_told) g cdg X.A X.stack s H C8.E0).nox.suite a ((a, oe) :: pn)).A (a, oe) := ⟨rfl, vs, hvs, hz.2.2 vs hvs⟩
    have hrh : RoomH 1 ((cxOf C8.CX0 X.prog X.w X.K X.mg X.base ["deed", "e"] "_law_told" (defScope s_law_told) g cdg X.A X.stack s H C8.E0).nox.suite a ((a, oe) :: pn)).A := by
      have r := roomH_of (hr.mono hk)
      exact ⟨r.dp, r.un⟩
    exact (pss_one (ps_ret (pe_callT (X := (cxOf C8.CX0 X.prog X.w X.K X.mg X.base ["deed", "e"] "_law_told" (defScope s_law_told) g cdg X.A X.stack s H C8.E0).nox.suite a ((a, oe) :: pn)) (p := (a, oe)) (x := "_law_term") T.t hrh hot1 List.mem_cons_self rfl T.tm T.tk T.tb (pa_cons (pv 1) pa_nil)))).run pins s' _ H' D I ⟨_, hσ, i, nm, G, rfl, hi, hnm, ⟨hz.1, hz.2.1⟩, sh, hq⟩
  · refine ⟨toldE X.K c Q, fun cls d σ' H' ⟨i, nm, G, hi, hnm, e1, e2, sh, hq⟩ => ⟨true, by rw [e1]; exact T.ex i hi, fun _ a ha => ⟨i, nm, G, hi, hnm, e1, e2, sh, ⟨σ', rfl⟩, hq⟩, fun z => nomatch z⟩, rfl, hc, h⟩
theorem w_toldx {c : Nat → Addr} {g CS ft cc P0 : Addr} {fdt fdr : FuncData} {T : List (Addr × Str)} {k : Nat} {params : Arguments} {body : Expr} {scope : Scope} {p lpos pos : Pos} {σ : L2.St} {H : Hp} {Q : VK} (Ft : ToldTx X.prog X.w X.K X.mg X.base c g CS ft fdt fdr)
    (TB : LamX.TabB X.base X.mg cc P0) (hcode : X.env.code = .ref cc) (hmT : (P0, X.env.qual ++ "<lambda>") ∈ T) (hu : ∀ p ∈ T, p.1 = P0 → p.2 = X.env.qual ++ "<lambda>") (hr : Room (k + 2) X.A) (hT : LamX.Tabs T H)
    (h : ∀ H1, LamX.ExtN H H1 → LamX.Tabs T H1 → ∀ (A : Around) (outer : List Env) (s : Shared) (Hx : Hp) (f c' : Addr), Room k (A.deeper (LamX.lamEnv X scope s.heap.objs.size f c')) → wE (lamCxN X A outer s Hx (toldE X.K c Q) scope f c') body σ H1 Q)
    (L : LamX.LamS X.env.scope scope := by exact LamX.lamS_by (by first | kernel_rfl | rfl)) (hdef : defaultsOf params X.env = ([], []) := by rfl)
    (hbind : ∀ (q : Str) (cl : List (Str × Addr)) (pm cv ctv : Value), bindArgs (PySem.W.kla_fn "<lambda>" q params body scope cl pm cv ctv) ⟨[], []⟩ = pure [] := by intro _ _ _ _ _; rfl) (hg : Gl X "_law_told" := by rfl) :
    wE X (.Call (.Name "_law_told" p) [.Lambda params body scope lpos] [] pos) σ H Q := by
  obtain ⟨oc, od, kV, doc, pm, an, cdv, ct, osl, rfl, lk, hcd⟩ := Ft.f.ex
  exact wE_of (pe_lamcallN (k := k) (t := fun E σ H Q => ∀ (A : Around) (outer : List Env) (s : Shared) (Hx : Hp) (f c' : Addr), Room k (A.deeper (LamX.lamEnv X scope s.heap.objs.size f c')) → wE (lamCxN X A outer s Hx E scope f c') body σ H Q)
    hg Ft.m Ft.f.kp lk hcd Ft.b sc_law_toldx rfl (.inl rfl) (told_gives Ft (Nat.le_add_left 1 k)) TB hcode hmT hu hr L hdef hbind (fun A outer s H E f c' hr => ⟨fun pins s1 σ1 H1 Q1 I q => q A outer s H f c' hr pins s1 I⟩)) ⟨hT, h⟩
end

end G9
namespace G9
open PySem PySem.Spec PyProof.Rows L2 G9S
/-! ### defs that may refuse; what is told of them -/
open L2H HotX
inductive Out where
  | val (d : D)
  | exc (i : Nat)
def toldD : Out → D
  | .val d => d
  | .exc i => .tup [.str "error", .str (kinds8.getD i Str.empty)]
def spX (K : PySem.W.Frag) (c : Nat → Addr) (R : List D → Out → Prop) : Sp := fun vs H Q E => ∃ (ds : List D) (o : Out) (G : Hp), Same G H ∧ RpL K G vs ds ∧ R ds o ∧ (∀ d, o = .val d → ∀ v G' H', Fr G H G' H' → Rp K G' v d → Q v H') ∧ (∀ i, o = .exc i → ∀ G' H', Fr G H G' H' → E (.ref (c i)) none H')
def EvX (X : Cx) (c : Nat → Addr) (E : XK) (H0 : Hp) (ρ : Ro) (e : Expr) (o : Out) : Prop := ∀ (σ : L2.St) (G H : Hp), Same H0 G → Same G H → En X.K G σ ρ → ∀ Q : VK, (∀ d, o = .val d → ∀ v G' H', Fr G H G' H' → Rp X.K G' v d → Q v H') → (∀ i, o = .exc i → ∀ G' H', Fr G H G' H' → E (.ref (c i)) none H') → wE X e σ H Q
section
variable {X : Cx} {c : Nat → Addr} {E : XK} {H0 : Hp} {ρ : Ro} {e : Expr} {es : List Expr} {d : D} {ds : List D} {o : Out} {pos p : Pos} {x : Str} {k : Nat} {R : List D → Out → Prop} {σ : L2.St} {G H : Hp} {rest : List Stmt} {N : Ends}
theorem x_of (h : Ev X H0 ρ e d) : EvX X c E H0 ρ e (.val d) := fun σ G H sg sh en Q qv _ => h σ G H sg sh en Q fun v G' H' f r => qv d rfl v G' H' f r
theorem EvX.is {o' : Out} (h : EvX X c E H0 ρ e o) (q : o = o') : EvX X c E H0 ρ e o' := q ▸ h
theorem x_call (F : FnX X.prog X.w X.K X.mg X.base x k (spX X.K c R)) (hr : Room k X.A) (tk : L2N.Takes X (fun cls d _ H => E cls d H)) (ha : EvA X H0 ρ (e :: es) ds) (hR : R ds o) (hg : Gl X x := by rfl) (hdb : (x == ("__debug__" : Str)) = false := by decide)
    (he : starEach (e :: es) X.env = (false, eval e X.env) :: starEach es X.env := by rfl) (hpl : (backTo pos (starEach es X.env)).any (·.1) = false := by rfl) : EvX X c E H0 ρ (.Call (.Name x p) (e :: es) [] pos) o := fun σ G H sg sh en Q qv qx =>
  w_callX F hr tk (ha σ G H sg sh en _ fun vs G1 H1 f1 r1 => ⟨ds, o, G1, f1.s, r1, hR, fun d hd v G' H' f r => qv d hd v G' H' (f1.trans f) r, fun i hi G' H' f => qx i hi G' H' (f1.trans f)⟩) hg hdb he hpl
/-- where it does not refuse -/
theorem e_callX (F : FnX X.prog X.w X.K X.mg X.base x k (spX X.K c R)) (hr : Room k X.A) (ha : EvA X H0 ρ (e :: es) ds) (hR : R ds (.val d)) (hg : Gl X x := by rfl) (hdb : (x == ("__debug__" : Str)) = false := by decide)
    (he : starEach (e :: es) X.env = (false, eval e X.env) :: starEach es X.env := by rfl) (hpl : (backTo pos (starEach es X.env)).any (·.1) = false := by rfl) : Ev X H0 ρ (.Call (.Name x p) (e :: es) [] pos) d := fun σ G H sg sh en Q q =>
  x_call (E := fun _ _ _ => False) F hr takes0N ha hR hg hdb he hpl σ G H sg sh en Q (fun d' hd v G' H' f r => by cases hd; exact q v G' H' f r) fun i hi => nomatch hi
/-- e, for what it refuses -/
theorem s_exprX (h : EvX X c E H0 ρ e o) (sg : Same H0 G) (sh : Same G H) (en : En X.K G σ ρ) (kx : ∀ i, o = .exc i → ∀ G' H', Fr G H G' H' → E (.ref (c i)) none H') (k : ∀ d, o = .val d → ∀ G' H', Fr G H G' H' → En X.K G' σ ρ → wB X rest N σ H') (hs : swapsWith e none pos.line X.env = pure false := by rfl) : wB X (.Expr e pos :: rest) N σ H :=
  wB_cons (wS_of (ps_expr pw hs) (h σ G H sg sh en _ (fun d hd v G1 H1 f1 r1 => k d hd G1 H1 f1 (en.up f1.g)) kx))
/-- return e, where e may refuse -/
theorem s_retX (h : EvX X c E H0 ρ e o) (sg : Same H0 G) (sh : Same G H) (en : En X.K G σ ρ) (kx : ∀ i, o = .exc i → ∀ G' H', Fr G H G' H' → E (.ref (c i)) none H') (k : ∀ d, o = .val d → ∀ v G' H', Fr G H G' H' → Rp X.K G' v d → N.rt v H') : wB X (.Return (some e) pos :: rest) N σ H :=
  wB_cons (wS_of (ps_ret pw) (h σ G H sg sh en _ k kx))
end
section
variable {P : Program} {w : World} {K : PySem.W.Frag} {mg : Str → Option Value} {base : Heap}
theorem okX {c : Nat → Addr} {x qual : Str} {st : Stmt} {f : Addr} {fd : FuncData} {N ps : List Str} {k : Nat} {R : List D → Out → Prop} (F : Fun K x qual st f fd) (S : FnScope N ps (defScope st)) (len : ∀ ds o, R ds o → ds.length = ps.length)
    (hbody : ∀ (cdv : Value) (A : Around) (outer : List Env) (s : Shared) (H G : Hp) (E : XK) (σ : L2.St) (ds : List D) (o : Out) (Q : VK), Room k (A.deeper (envOfC qual (defScope st) s.heap.objs.size f cdv)) → R ds o → Same G H → En K G σ (startD N ds) →
      L2N.Takes (cxOf (L2N.CX P w) P w K mg base N qual (defScope st) f cdv A outer s H E) (fun cls d _ H => E cls d H) → (∀ d, o = .val d → ∀ v G' H', Fr G H G' H' → Rp K G' v d → Q v H') → (∀ i, o = .exc i → ∀ G' H', Fr G H G' H' → E (.ref (c i)) none H') →
      wB (cxOf (L2N.CX P w) P w K mg base N qual (defScope st) f cdv A outer s H E) (defBody st) { nx := fun _ H' => Q .non H', rt := Q } σ H) : FnOk P w K mg base (L2N.CX P w) (k + 1) f fd ps (spX K c R) := by
  refine okN F S (fun vs H Q E h => ?_) fun cdv A outer s H E vs Q hr h tk => ?_
  · obtain ⟨ds, o, G, _, r, hR, _⟩ := h
    rw [r.length]
    exact len ds o hR
  · obtain ⟨ds, o, G, sh, r, hR, qv, qx⟩ := h
    exact hbody cdv A outer s H G E (L2.start N vs) ds o Q hr hR sh (en_start r) tk qv qx
theorem fnX_mk {x qual : Str} {st : Stmt} {f : Addr} {fd : FuncData} {ps : List Str} {k : Nat} {sp : Sp} (F : Fun K x qual st f fd) (G : FnOk P w K mg base (L2N.CX P w) k f fd ps sp) (hm : mg x = some (.ref f)) (b : Binds K fd ps []) : FnX P w K mg base x k sp := ⟨f, fd, ps, G, hm, F.kp, b⟩
end
section
variable {X : Cx} {T : Tbs} {a : Addr} {ρ : Ro}
/-- _law_told(lambda: body) -/
theorem p_told {c : Nat → Addr} {g CS ft cc P0 : Addr} {fdt fdr : FuncData} {k : Nat} {params : Arguments} {body : Expr} {scope : Scope} {p lpos pos : Pos} {o : Out} (Ft : ToldTx X.prog X.w X.K X.mg X.base c g CS ft fdt fdr)
    (TB : LamX.TabB X.base X.mg cc P0) (hcode : X.env.code = .ref cc) (hmT : (P0, X.env.qual ++ "<lambda>") ∈ T) (hu : ∀ p ∈ T, p.1 = P0 → p.2 = X.env.qual ++ "<lambda>") (hr : Room (k + 2) X.A) (ho : ∀ i, o = .exc i → i < 8)
    (h : ∀ (E : XK) (A : Around) (outer : List Env) (s : Shared) (Hx : Hp) (f c' : Addr), Room k (A.deeper (LamX.lamEnv X scope s.heap.objs.size f c')) → EvX (lamCxN X A outer s Hx E scope f c') c E Nil ρ body o)
    (L : LamX.LamS X.env.scope scope := by exact LamX.lamS_by (by first | kernel_rfl | rfl)) (hdef : defaultsOf params X.env = ([], []) := by rfl)
    (hbind : ∀ (q : Str) (cl : List (Str × Addr)) (pm cv ctv : Value), bindArgs (PySem.W.kla_fn "<lambda>" q params body scope cl pm cv ctv) ⟨[], []⟩ = pure [] := by intro _ _ _ _ _; rfl) (hg : Gl X "_law_told" := by rfl) :
    EvP X T a ρ (.Call (.Name "_law_told" p) [.Lambda params body scope lpos] [] pos) (· = toldD o) := fun Hs σ G H wz en Q q => by
  refine w_toldx Ft TB hcode hmT hu hr wz.tb (fun H1 ext t1 A outer s Hx f c' hr' => ?_) L hdef hbind hg
  have fw := wz.lam ext t1
  have w1 := wz.fw fw
  refine h (toldE X.K c Q) A outer s Hx f c' hr' σ (noT G) H1 same_nil w1.s (en.kp fw.g) Q (fun d hd v G' H' f r => ?_) fun i hi G' H' f => ?_
  · subst hd
    exact q v d G' H' (fw.trans (w1.ofFr f)) r rfl
  · have h8 := ho i hi
    subst hi
    have f1 := fw.trans (w1.ofFr f)
    refine ⟨i, kinds8.getD i Str.empty, G', h8, ?_, rfl, rfl, f.s, fun v G2 H2 f2 r2 => q v _ G2 H2 (f1.trans ((w1.fw (w1.ofFr f)).ofFr f2)) r2 rfl⟩
    rw [List.getD_eq_getElem?_getD]
    have hl : i < kinds8.length := h8
    rw [List.getElem?_eq_getElem hl]
    rfl
end

end G9
namespace G9
open PySem PySem.Spec PyProof.Rows L2 G9S
/-! ### an own == with an int; len of an own object -/
open L2H HotX
def rOwnI (C : Addr) (sp : Sp) : R2 := fun x y H Q => ∃ a i dx fs, x = .ref a ∧ y = .int i ∧ H a = some (.ins C dx fs) ∧ sp [.ref a, .int i] H (fun v H' => (∃ k, v = .bl k) ∧ Q v H') E0
def rLenO (C : Addr) (sp : Sp) : List V → Hp → VK → Prop := fun xs H Q => ∃ a dx fs, xs = [.ref a] ∧ H a = some (.ins C dx fs) ∧ sp [.ref a] H (fun v H' => (∃ i : Int, v = .int i ∧ 0 ≤ i ∧ i < 2 ^ 63) ∧ Q v H') E0
section
variable {X : Cx}
theorem op_ownI {C f : Addr} {fd : FuncData} {ps : List Str} {sp : Sp} {k : Nat} (F : FnOk X.prog X.w X.K X.mg X.base CX0 k f fd ps sp) (hs : PySem.W.findIn X.K (.ref C) "__eq__" = some (some (.ref f))) (hf : PySem.W.isFn X.K (.ref f) = true) (hn : PySem.W.notFirst X.K C (.type "int") = true) (hb : Binds X.K fd ps []) (hr : Room k X.A) : OpR X (compareOp .Eq) (rOwnI C sp) := by
  intro pins s σ H x y v u Q I rx ry hq
  obtain ⟨a, i, dx, fs, rfl, rfl, ha, hsp⟩ := hq
  cases rx
  obtain ⟨t, rfl⟩ := ry
  show wpAny (model X.prog X.w) X.A (richCompare .Eq (.ref a) (.int i t)) (EP X pins σ Q) X.xe s
  obtain ⟨mA, J, _⟩ := ins_get I.hok ha
  obtain ⟨od, J, _⟩ := J.look
  obtain ⟨m, hF⟩ := I.fr
  refine PySem.W.cmp_K (op := .Eq) (tb := .type "int") hr.units0 hF I.ok.mod.kin J (PySem.W.Looks.of_pure rfl) hn hs hf ?_
  have hl := F.len _ _ _ _ hsp
  have r2 : Vals [V.ref a, V.int i] [Value.ref a, Value.int i t] := .cons rfl (.cons ⟨t, rfl⟩ .nil)
  refine wpAny_call (codeAny_mono (F.run X.A X.stack s H ⟨[.ref a, .int i t], []⟩ [.ref a, .int i t] [.ref a, .int i] _ E0 hr I.env0 (by
    have := hb s [.ref a, .int i t] I.kIn (by simpa using hl)
    simpa using this) r2 hsp) fun r s' hq => ?_)
  cases r with
  | error e => exact (show False from hq).elim
  | ok fl =>
    cases fl with
    | ret w =>
      obtain ⟨z, H', I', rz, ⟨kk, ez⟩, q⟩ := I.after hq
      subst ez
      cases rz
      exact ⟨.bl kk, H', I', rfl, q⟩
    | next => exact False.elim hq
    | brk => exact False.elim hq
    | cont => exact False.elim hq
theorem cr_lenO {C f : Addr} {fd : FuncData} {ps : List Str} {sp : Sp} {k : Nat} (F : FnOk X.prog X.w X.K X.mg X.base CX0 k f fd ps sp) (hs : PySem.W.findIn X.K (.ref C) "__len__" = some (some (.ref f))) (hf : PySem.W.isFn X.K (.ref f) = true) (hb : Binds X.K fd ps []) (hr : Room (k + 1) X.A) : CallR X (.builtin "len") (rLenO C sp) := by
  intro pins s σ H xs us Q I r h
  obtain ⟨a, dx, fs, rfl, ha, hsp⟩ := h
  obtain ⟨u, rfl, rx⟩ := vals1 r
  cases rx
  obtain ⟨mA, J, _⟩ := ins_get I.hok ha
  obtain ⟨od, J, _⟩ := J.look
  obtain ⟨m, hF⟩ := I.fr
  refine PySem.W.len_K hF I.ok.mod.kin J hs hf ?_
  have hl := F.len _ _ _ _ hsp
  have r2 : Vals [V.ref a] [Value.ref a] := .cons rfl .nil
  refine wpAny_call (codeAny_mono (F.run X.A.in1 X.stack s H ⟨[.ref a], []⟩ [.ref a] [.ref a] _ E0 hr.in1 I.env0.in1 (by
    have := hb s [.ref a] I.kIn (by simpa using hl)
    simpa using this) r2 hsp) fun r s' hq => ?_)
  cases r with
  | error e => exact (show False from hq).elim
  | ok fl =>
    cases fl with
    | ret w =>
      obtain ⟨z, H', I', rz, ⟨ii, ez, h0, h1⟩, q⟩ := I.after hq
      subst ez
      obtain ⟨t, rfl⟩ := rz
      exact ⟨⟨h0, h1⟩, .int ii, H', I'.tok _, ⟨_, rfl⟩, q⟩
    | next => exact False.elim hq
    | brk => exact False.elim hq
    | cont => exact False.elim hq
end
section
variable {P : Program} {w : World} {K : PySem.W.Frag} {mg : Str → Option Value} {base : Heap}
/-! ### __eq__ at another basket, at an int -/
def spEq9 (K : PySem.W.Frag) (C : Addr) : Sp := fun vs H Q E => spEqB K C vs H Q E ∨ ∃ (p : Addr) (i : Int) (G : Hp) (b : Bsk), vs = [.ref p, .int i] ∧ Same G H ∧ Bk K C G H p b ∧ ∀ G' H', Fr G H G' H' → Q (.bl false) H'
theorem ok_eq9 {f C : Addr} {fd : FuncData} (F : Fun K "__eq__" "Basket.__eq__" s_Basket_eq f fd) (T : BTx K mg C) (Y : BTy K C) (B : Blt mg) (yi : PySem.W.kitOne K (.type "int") (.ref C) = some false) : FnOk P w K mg base CX0 1 f fd ["self", "other"] (spEq9 K C) := by
  have h1 := ok_eq (P := P) (w := w) (base := base) F T Y B
  refine ⟨fun vs H Q E h => ?_, fun A outer s H args us vs Q E hr he hb hv hs => ?_⟩
  · rcases h with h | ⟨p, i, G, b, rfl, _⟩
    · exact h1.len _ _ _ _ h
    · rfl
  · rcases hs with hs | hs
    · exact h1.run A outer s H args us vs Q E hr he hb hv hs
    · refine (okS (sp := fun vs H Q _ => ∃ (p : Addr) (i : Int) (G : Hp) (b : Bsk), vs = [.ref p, .int i] ∧ Same G H ∧ Bk K C G H p b ∧ ∀ G' H', Fr G H G' H' → Q (.bl false) H') F sc_eq (fun vs H Q E h => by obtain ⟨p, i, G, b, rfl, _⟩ := h; rfl) fun cdv A outer s H E vs Q hr h => ?_).run A outer s H args us vs Q E hr he hb hv hs
      obtain ⟨p, i, G, b, rfl, sh, bk, q⟩ := h
      have hisi : RdC K Nil (rIsi K) [.int i, .ref C] (.bl false) := fun xs G1 H1 sg sh r Q q => by
        cases r with
        | cons r1 r =>
          cases r with
          | cons r2 r =>
            cases r
            rw [r1.int_of, r2.ref_of]
            exact ⟨.int i, .ref C, .type "int", .ref C, false, rfl, .own C, .base (.int i), yi, q _ _ _ (Fr.refl sh) (.bl _)⟩
      refine s_ret (d := .bl false) ((e_and (k := false) (l := false) (e_callB call_isi B.isinstance_ (a_cons (e_v 1) (a_cons (e_glob T.mgC (v := .ref C) rfl fun _ => .ref C) a_nil)) hisi) fun h => nomatch h)) same_nil sh (en_start (N := ["self", "other"]) (ds := [.ref p, .int i]) (.cons (.ref p) (.cons (.int i) .nil))) fun v G1 H1 f1 r1 => ?_
      obtain rfl := r1.bl_of
      exact q G1 H1 f1
end

end G9
namespace G9
open PySem PySem.Spec PyProof.Rows L2 G9S
section
variable {P : Program} {w : World} {K : PySem.W.Frag} {mg : Str → Option Value} {base : Heap}
/-! ### _law_may -/
theorem sc_law_may : FnScope ["family", "some", "top"] ["family", "some"] (defScope s_law_may) := ⟨rfl, rfl, rfl, by decide +kernel, rfl, by decide +kernel, by decide +kernel⟩
theorem ok_law_may {f : Addr} {fd : FuncData} (F : Fun K "_law_may" "_law_may" s_law_may f fd) (B : Blt mg) (F1 : Fn P w K mg base "_law_inside" 1 (spR K R_within)) : FnOk P w K mg base CX0 2 f fd ["family", "some"] (spR K R_may_be) := by
  refine okD F sc_law_may (fun ds d h => by obtain ⟨n, f, s, _, _, rfl, _⟩ := h; rfl) fun cdv A outer s H G E σ ds d Q hr hR sh en q => ?_
  obtain ⟨n, fs, ss, hf, hs, rfl, rfl⟩ := hR
  have hN := sc_law_may.nd
  exact s_ret (e_any B (l_lc 2 (c_map dS fs (fun o => D.bl (subB ss o)) 2 (i_tup (e_at (e_v 0) rfl)) (by omega) fun x hx _ _ _ _ _ => e_call F1 hr (a_cons (e_v 1) (a_cons (e_v 2) a_nil)) ⟨ss, x, hs, rfl, rfl⟩))) same_nil sh en q
end

end G9
namespace G9
open PySem PySem.Spec PyProof.Rows L2 G9S
open L2H HotX
section
variable {P : Program} {w : World} {K : PySem.W.Frag} {mg : Str → Option Value} {base : Heap}
/-! ### _law_free -/
def R_law_free (ds : List D) (d : D) : Prop := ∃ (n : Int) (f : List (List Int)) (now : List Int), 0 ≤ n ∧ n ≤ 5 ∧ f.length ≤ 1000 ∧ now.length ≤ 900 ∧ ds = [dFam n f, dS now] ∧ d = dS (freeOf n f now)
theorem sc_law_free : FnScope ["family", "now", "found", "thing"] ["family", "now"] (defScope s_law_free) := ⟨rfl, rfl, rfl, by decide +kernel, rfl, by decide +kernel, by decide +kernel⟩
theorem free_step (n : Int) (f : List (List Int)) (now : List Int) : freeOf n f now = ((List.range n.toNat).filter fun (t : Nat) => !now.contains (t : Int) && mayB f (isort ltI (now ++ [(t : Int)]))).map fun (t : Nat) => (t : Int) := by
  unfold freeOf freeN
  rw [List.filter_filter]
  congr 1
  congr 1
  funext t
  rw [Bool.and_comm]
theorem ok_law_free {f : Addr} {fd : FuncData} (F : Fun K "_law_free" "_law_free" s_law_free f fd) (B : Blt mg) (F1 : Fn P w K mg base "_law_may" 2 (spR K R_may_be)) : FnOk P w K mg base CX0 3 f fd ["family", "now"] (spR K R_law_free) := by
  refine okD F sc_law_free (fun ds d h => by obtain ⟨n, f, s, _, _, _, _, rfl, _⟩ := h; rfl) fun cdv A outer s H G E σ ds d Q hr hR sh en q => ?_
  obtain ⟨n, fs, now, hn0, hn, hf, hs, rfl, rfl⟩ := hR
  have hN := sc_law_free.nd
  refine s_asgL 2 (l_lst a_nil) same_nil sh en fun l vs σ1 G1 H1 f1 hl gl hl1 r1 en1 => ?_
  have lo1 : Lo K G1 H1 l [] := ⟨gl, vs, hl1, r1⟩
  generalize hg : (fun (t : Nat) => !now.contains (t : Int) && mayB fs (isort ltI (now ++ [(t : Int)]))) = g
  refine s_for 3 (fun t : Nat => D.int (t : Int)) (List.range n.toNat) (fun i ρ' G' H' => (∃ x, ρ' = [some (dFam n fs), some (dS now), some (.ref l), x]) ∧ Fr G H G' H' ∧ Lo K G' H' l ((((List.range n.toNat).take i).filter g).map fun (t : Nat) => D.int (t : Int))) (i_range1 B.range_ (e_at (e_v 0) rfl) (by omega)) same_nil f1.s en1
    (fun G2 H2 f2 => ⟨⟨_, rfl⟩, f1.trans f2, lo1.fr f2⟩) (fun i x ρ' σ' G' H' G3 H3 hx hJ f3 en3 => ?_) fun ρ' σ' G' H' hJ s2 en2 => ?_
  · obtain ⟨⟨y, rfl⟩, fr, lo⟩ := hJ
    have fr3 := fr.trans f3
    have lo3 := lo.fr f3
    have hfl : (((List.range n.toNat).take i).filter g).length ≤ 5 := Nat.le_trans (List.length_filter_le _ _) (by rw [List.length_take, List.length_range]; omega)
    have step : (((List.range n.toNat).take (i + 1)).filter g) = (((List.range n.toNat).take i).filter g) ++ if g x then [x] else [] := by
      rw [List.take_add_one, hx, Option.toList_some, List.filter_append]
      congr 1
      cases e : g x <;> simp [List.filter, e]
    refine s_when (b := g x) ((t_and2 (t_cmp op_notIn_seq (e_v 3) (e_v 1) rd_ninT) fun _ => t_val (e_call F1 hr (a_cons (e_v 0) (a_cons (e_tuple B (l_sortTI (ns := now ++ [(x : Int)]) B.sorted_ ((e_op op_catA (e_v 1) (e_tup (a_cons (e_v 3) a_nil) (by show 1 ≤ 100000; decide)) (rd_catT (by rw [List.length_map]; show now.length + 1 ≤ 100000; omega))).is (by simp [dS]))).ev) a_nil)) ⟨n, fs, _, hf, by rw [(isort_perm _).length_eq, List.length_append]; show now.length + 1 ≤ 1000; omega, rfl, rfl⟩)).is (by rw [← hg])) same_nil f3.s en3 (fun hb G4 H4 f4 en4 => ?_) fun hb G4 H4 f4 en4 => ?_
    · refine s_app (e_v 2) (e_v 3) same_nil f4.s en4 (lo3.fr f4) (by rw [List.length_map]; omega) fun G7 H7 H8 f7 e8 lo8 en8 => wB_nil (wB_nil ?_)
      obtain ⟨o8, e8⟩ := e8
      refine ⟨_, G7, (f3.g.trans f4.g).trans f7.g, ?_, en8, ⟨_, rfl⟩, ?_, ?_⟩
      · rw [e8]
        exact Same.mut f7.s lo8.out
      · rw [e8]
        exact ((fr3.trans f4).trans f7).mut hl lo8.out
      · rw [step, hb, if_pos rfl, List.map_append]
        exact lo8
    · refine wB_nil ⟨_, G4, f3.g.trans f4.g, f4.s, en4, ⟨_, rfl⟩, fr3.trans f4, ?_⟩
      rw [step, hb, if_neg (by decide), List.append_nil]
      exact lo3.fr f4
  · obtain ⟨⟨y, rfl⟩, fr, lo⟩ := hJ
    obtain ⟨G5, s45, s5, en5, fr5⟩ := lo.en s2 en2 (i := 2) rfl
    have e : ((List.take (List.range n.toNat).length (List.range n.toNat)).filter g).map (fun (t : Nat) => D.int (t : Int)) = (freeOf n fs now).map D.int := by
      rw [List.take_length, free_step, hg, List.map_map]
      rfl
    rw [e] at en5
    exact s_ret (e_tuple B (e_v 2)) same_nil s5 en5 fun v G6 H6 f6 r6 => q v G6 H6 ((fr5 G H fr hl).trans f6) r6
end
/-! ### baskets at the law's level -/
section
variable {K : PySem.W.Frag} {C : Addr} {T : Tbs} {Hs : Hp} {a p : Addr} {G H G' H' : Hp} {b b' : Bsk}
theorem Bk.at_ {p : Addr} {b : Bsk} (h : Bk K C G H p b) : ∃ dx fs, H p = some (.ins C dx fs) := let ⟨dx, _, _, _, h1, _⟩ := h.ex; ⟨dx, _, h1⟩
theorem Bk.ne (h : Bk K C G H p b) (d : Die H a) : p ≠ a := fun z => by
  obtain ⟨dx, fs, e⟩ := h.at_
  obtain ⟨x, y, q⟩ := d
  rw [z, q] at e
  cases e
theorem Bk.fw (h : Bk K C G H p b) (w : Wz T Hs a G H) (f : Fw T a G H G' H') : Bk K C G' H' p b := by
  have hp := h.ne w.da
  obtain ⟨dx, vf, vr, vu, h1, h2, h3, h4⟩ := h.ex
  exact ⟨f.n p _ h.out h1 (fun _ z => nomatch z), dx, vf, vr, vu, f.h p _ hp (fun _ z => nomatch z) h1, h2.kp f.g, h3.kp f.g, h4.kp f.g⟩
theorem Bk.fw' (h : Bk K C G H p b) (hp : p ≠ a) (f : Fw T a G H G' H') : Bk K C G' H' p b := by
  obtain ⟨dx, vf, vr, vu, h1, h2, h3, h4⟩ := h.ex
  exact ⟨f.n p _ h.out h1 (fun _ z => nomatch z), dx, vf, vr, vu, f.h p _ hp (fun _ z => nomatch z) h1, h2.kp f.g, h3.kp f.g, h4.kp f.g⟩
/-- not there at the round's start -/
def Newly (Hs : Hp) (p : Addr) : Prop := ∀ o, (∀ ps, o ≠ .tbl ps) → Hs p ≠ some o
theorem Wz.newly (w : Wz T Hs a G H) (hp : H p = none) : Newly Hs p := fun o ho e => by
  have hpa : p ≠ a := fun z => die_ne w.da (z ▸ hp)
  rw [w.fr p o hpa ho e] at hp
  cases hp
theorem Wz.fo (w : Wz T Hs a G H) (h : Bk K C G H p b) (nw : Newly Hs p) (f : Fo p G H G' H') : Wz T Hs a G' H' := by
  have hp := h.ne w.da
  obtain ⟨x, y, q⟩ := w.da
  obtain ⟨dx, fs, e⟩ := h.at_
  have z := f.keep (Ne.symm hp) w.ga q
  refine ⟨f.s, z.1, ⟨x, y, z.2⟩, tabs_but w.tb e rfl f.h, fun c o h1 h2 h3 => f.h c o (fun z => ?_) (w.fr c o h1 h2 h3)⟩
  subst z
  exact nw o h2 h3
end
/-- e makes of the basket b at p the basket b', and tells d -/
def EvB (X : Cx) (T : Tbs) (a C p : Addr) (ρ : Ro) (e : Expr) (b : Bsk) (d : D) (b' : Bsk) : Prop := ∀ (Hs : Hp) (σ : L2.St) (G H : Hp), Wz T Hs a G H → Bk X.K C G H p b → Newly Hs p → En X.K G σ ρ → ∀ Q : VK, (∀ v G' H', Kp G G' → Wz T Hs a G' H' → Bk X.K C G' H' p b' → Rp X.K G' v d → Q v H') → wE X e σ H Q
def MethOk (env : Env) (o : Expr) (m : Str) (args : List Expr) (apos pos : Pos) : Prop := ∃ pl : Sem Bool, eval (.Call (.Attribute o m apos) args [] pos) env = (do
      let ov ← eval o env
      standAt apos.atName
      let (f, first) ← holding [ov] (getMethod ov m pl)
      callWith pos f first (backTo pos (starEach args env)) (backToKw pos (keywordEach [] env)))
/-- what the told calls lean on -/
structure Tl (X : Cx) (T : Tbs) (c : Nat → Addr) (g CS ft cc P0 : Addr) (fdt fdr : FuncData) : Prop where
  Ft : ToldTx X.prog X.w X.K X.mg X.base c g CS ft fdt fdr
  TB : LamX.TabB X.base X.mg cc P0
  hcode : X.env.code = .ref cc
  hmT : (P0, X.env.qual ++ "<lambda>") ∈ T
  hu : ∀ p ∈ T, p.1 = P0 → p.2 = X.env.qual ++ "<lambda>"
section
variable {X : Cx} {T : Tbs} {a C p : Addr} {ρ : Ro} {c : Nat → Addr} {g CS ft cc P0 : Addr} {fdt fdr : FuncData} {params : Arguments} {scope : Scope} {p1 p2 p3 p4 lpos pos apos : Pos} {xe : Str} {po pe : Pos} {b : Bsk}
abbrev errD (i : Nat) : D := toldD (.exc i)
theorem toldE_of {Q : VK} {Hs G H : Hp} (i : Nat) (hi : i < 8) (w : Wz T Hs a G H) (q : ∀ v G' H', Fr G H G' H' → Rp X.K G' v (errD i) → Q v H') : toldE X.K c Q (.ref (c i)) none H := by
  refine ⟨i, kinds8.getD i Str.empty, G, hi, ?_, rfl, rfl, w.s, q⟩
  rw [List.getD_eq_getElem?_getD]
  have hl : i < kinds8.length := hi
  rw [List.getElem?_eq_getElem hl]
  rfl
/-- _law_told(lambda: o.take(e)) -/
theorem b_take {dv : D} {r : List Int} (L : Tl X T c g CS ft cc P0 fdt fdr) (Tx : BTx X.K X.mg C) (F : FnMX X.prog X.w X.K X.mg X.base C "take" 4 (spTakeX X.K C (c 4))) (hr : Room 6 X.A) (hd : dv.tyS ≠ none) (ok : BOk b) (hl : b.rows.length < 100) (hlast : b.rows.getLast? = some r)
    (ho : ∀ (A : Around) (outer : List Env) (s : Shared) (Hx : Hp) (E : XK) (f c' : Addr), Ev (lamCxN X A outer s Hx E scope f c') Nil ρ (.Name "basket" po) (.ref p)) (he : ∀ (A : Around) (outer : List Env) (s : Shared) (Hx : Hp) (E : XK) (f c' : Addr), Ev (lamCxN X A outer s Hx E scope f c') Nil ρ (.Name xe pe) dv)
    (LS : LamX.LamS X.env.scope scope := by exact LamX.lamS_by (by first | kernel_rfl | rfl)) (hdef : defaultsOf params X.env = ([], []) := by rfl)
    (hbind : ∀ (q : Str) (cl : List (Str × Addr)) (pm cv ctv : Value), bindArgs (PySem.W.kla_fn "<lambda>" q params (.Call (.Attribute (.Name "basket" po) "take" apos) [.Name xe pe] [] p2) scope cl pm cv ctv) ⟨[], []⟩ = pure [] := by intro _ _ _ _ _; rfl) (hg : Gl X "_law_told" := by rfl)
    (hM : ∀ (A : Around) (outer : List Env) (s : Shared) (Hx : Hp) (E : XK) (f c' : Addr), MethOk (lamCxN X A outer s Hx E scope f c').env (.Name "basket" po) "take" [.Name xe pe] apos p2 := by intro _ _ _ _ _ _ _; exact ⟨_, rfl⟩) :
    (∀ t, dv = .int t → t ∈ freeOf b.n b.f r → EvB X T a C p ρ (.Call (.Name "_law_told" p1) [.Lambda params (.Call (.Attribute (.Name "basket" po) "take" apos) [.Name xe pe] [] p2) scope lpos] [] pos) b (.bl (decide (freeOf b.n b.f (addTo r t) = []))) { b with rows := b.rows ++ [addTo r t], und := [] }) ∧
    ((∀ t, dv = .int t → t ∉ freeOf b.n b.f r) → EvB X T a C p ρ (.Call (.Name "_law_told" p1) [.Lambda params (.Call (.Attribute (.Name "basket" po) "take" apos) [.Name xe pe] [] p2) scope lpos] [] pos) b (errD 4) b) := by
  have key : ∀ (Hs : Hp) (σ : L2.St) (G H : Hp), Wz T Hs a G H → Bk X.K C G H p b → Newly Hs p → En X.K G σ ρ → ∀ Q : VK,
      (∀ G1 H1, Kp G G1 → Wz T Hs a G1 H1 → Bk X.K C G1 H1 p b → ((∀ t, dv = .int t → t ∈ freeOf b.n b.f r → ∀ v G' H', Fo p G1 H1 G' H' → Bk X.K C G' H' p { b with rows := b.rows ++ [addTo r t], und := [] } → Rp X.K G' v (.bl (decide (freeOf b.n b.f (addTo r t) = []))) → Q v H') ∧ ((∀ t, dv = .int t → t ∉ freeOf b.n b.f r) → ∀ v G' H', Fr G1 H1 G' H' → Rp X.K G' v (errD 4) → Q v H'))) →
      wE X (.Call (.Name "_law_told" p1) [.Lambda params (.Call (.Attribute (.Name "basket" po) "take" apos) [.Name xe pe] [] p2) scope lpos] [] pos) σ H Q := by
    intro Hs σ G H wz bk nw en Q q
    refine w_toldx (k := 4) L.Ft L.TB L.hcode L.hmT L.hu hr wz.tb (fun H1 ext t1 A outer s Hx f c' hr' => ?_) LS hdef hbind hg
    have fw := wz.lam ext t1
    have w1 := wz.fw fw
    have bk1 := bk.fw wz fw
    obtain ⟨pl, hpl⟩ := hM A outer s Hx (toldE X.K c Q) f c'
    refine w_methX1 (pl := pl) F Tx.cl hr' takes_lam (ho A outer s Hx _ f c' σ (noT G) H1 same_nil w1.s (en.kp fw.g) _ fun x G2 H2 f2 r2 => ?_) rfl rfl hpl
    obtain rfl := r2.ref_of
    have fw2 := w1.ofFr f2
    have w2 := w1.fw fw2
    have bk2 := bk1.fr f2
    obtain ⟨dx, vf, vr, vu, hp, _⟩ := bk2.ex
    refine ⟨p, dx, _, rfl, hp, bfs_no _ _ _ (by decide +kernel) (by decide +kernel) (by decide +kernel), he A outer s Hx _ f c' σ G2 H2 same_nil w2.s (en.kp (fw.g.trans fw2.g)) _ fun y G3 H3 f3 r3 => ?_⟩
    have fw3 := w2.ofFr f3
    have w3 := w2.fw fw3
    have bk3 := bk2.fr f3
    refine ⟨p, y, dv, G3, b, r, rfl, w3.s, r3, hd, bk3, ok, hl, hlast, (q G3 H3 (fw.g.trans (fw2.g.trans fw3.g)) w3 bk3).1, fun hno G4 H4 f4 => ?_⟩
    have fw4 := w3.ofFr f4
    have w4 := w3.fw fw4
    exact toldE_of 4 (by decide) w4 fun v G5 H5 f5 r5 => (q G4 H4 (fw.g.trans (fw2.g.trans (fw3.g.trans fw4.g))) w4 (bk3.fr f4)).2 hno v G5 H5 f5 r5
  constructor
  · intro t ht hin Hs σ G H wz bk nw en Q q
    refine key Hs σ G H wz bk nw en Q fun G1 H1 k1 w1 b1 => ⟨fun t' ht' _ v G' H' fo bk' r' => ?_, fun hno => absurd hin (hno t ht)⟩
    rw [ht] at ht'
    cases ht'
    exact q v G' H' (k1.trans (Kp.of fo.g)) (w1.fo b1 nw fo) bk' r'
  · intro hno Hs σ G H wz bk nw en Q q
    refine key Hs σ G H wz bk nw en Q fun G1 H1 k1 w1 b1 => ⟨fun t' ht' hin => absurd hin (hno t' ht'), fun _ v G' H' f' r' => ?_⟩
    have fw' := w1.ofFr f'
    exact q v G' H' (k1.trans fw'.g) (w1.fw fw') (b1.fr f') r'
/-- _law_told(lambda: o.leave(e)) -/
theorem b_leave {dv : D} {r : List Int} (L : Tl X T c g CS ft cc P0 fdt fdr) (Tx : BTx X.K X.mg C) (F : FnMX X.prog X.w X.K X.mg X.base C "leave" 2 (spLeaveX X.K C (c 4))) (hr : Room 6 X.A) (hd : dv.tyS ≠ none) (ok : BOk b) (hl : b.rows.length < 100) (hlast : b.rows.getLast? = some r)
    (ho : ∀ (A : Around) (outer : List Env) (s : Shared) (Hx : Hp) (E : XK) (f c' : Addr), Ev (lamCxN X A outer s Hx E scope f c') Nil ρ (.Name "basket" po) (.ref p)) (he : ∀ (A : Around) (outer : List Env) (s : Shared) (Hx : Hp) (E : XK) (f c' : Addr), Ev (lamCxN X A outer s Hx E scope f c') Nil ρ (.Name xe pe) dv)
    (LS : LamX.LamS X.env.scope scope := by exact LamX.lamS_by (by first | kernel_rfl | rfl)) (hdef : defaultsOf params X.env = ([], []) := by rfl)
    (hbind : ∀ (q : Str) (cl : List (Str × Addr)) (pm cv ctv : Value), bindArgs (PySem.W.kla_fn "<lambda>" q params (.Call (.Attribute (.Name "basket" po) "leave" apos) [.Name xe pe] [] p2) scope cl pm cv ctv) ⟨[], []⟩ = pure [] := by intro _ _ _ _ _; rfl) (hg : Gl X "_law_told" := by rfl)
    (hM : ∀ (A : Around) (outer : List Env) (s : Shared) (Hx : Hp) (E : XK) (f c' : Addr), MethOk (lamCxN X A outer s Hx E scope f c').env (.Name "basket" po) "leave" [.Name xe pe] apos p2 := by intro _ _ _ _ _ _ _; exact ⟨_, rfl⟩) :
    (∀ t, dv = .int t → t ∈ r → EvB X T a C p ρ (.Call (.Name "_law_told" p1) [.Lambda params (.Call (.Attribute (.Name "basket" po) "leave" apos) [.Name xe pe] [] p2) scope lpos] [] pos) b (dS (r.filter fun o => !decide (o = t))) { b with rows := b.rows ++ [r.filter fun o => !decide (o = t)], und := [] }) ∧
    ((∀ t, dv = .int t → t ∉ r) → EvB X T a C p ρ (.Call (.Name "_law_told" p1) [.Lambda params (.Call (.Attribute (.Name "basket" po) "leave" apos) [.Name xe pe] [] p2) scope lpos] [] pos) b (errD 4) b) := by
  have key : ∀ (Hs : Hp) (σ : L2.St) (G H : Hp), Wz T Hs a G H → Bk X.K C G H p b → Newly Hs p → En X.K G σ ρ → ∀ Q : VK,
      (∀ G1 H1, Kp G G1 → Wz T Hs a G1 H1 → Bk X.K C G1 H1 p b → ((∀ t, dv = .int t → t ∈ r → ∀ v G' H', Fo p G1 H1 G' H' → Bk X.K C G' H' p { b with rows := b.rows ++ [r.filter fun o => !decide (o = t)], und := [] } → Rp X.K G' v (dS (r.filter fun o => !decide (o = t))) → Q v H') ∧ ((∀ t, dv = .int t → t ∉ r) → ∀ v G' H', Fr G1 H1 G' H' → Rp X.K G' v (errD 4) → Q v H'))) →
      wE X (.Call (.Name "_law_told" p1) [.Lambda params (.Call (.Attribute (.Name "basket" po) "leave" apos) [.Name xe pe] [] p2) scope lpos] [] pos) σ H Q := by
    intro Hs σ G H wz bk nw en Q q
    refine w_toldx (k := 4) L.Ft L.TB L.hcode L.hmT L.hu hr wz.tb (fun H1 ext t1 A outer s Hx f c' hr' => ?_) LS hdef hbind hg
    have fw := wz.lam ext t1
    have w1 := wz.fw fw
    have bk1 := bk.fw wz fw
    obtain ⟨pl, hpl⟩ := hM A outer s Hx (toldE X.K c Q) f c'
    refine w_methX1 (pl := pl) F Tx.cl (hr'.mono (by decide)) takes_lam (ho A outer s Hx _ f c' σ (noT G) H1 same_nil w1.s (en.kp fw.g) _ fun x G2 H2 f2 r2 => ?_) rfl rfl hpl
    obtain rfl := r2.ref_of
    have fw2 := w1.ofFr f2
    have w2 := w1.fw fw2
    have bk2 := bk1.fr f2
    obtain ⟨dx, vf, vr, vu, hp, _⟩ := bk2.ex
    refine ⟨p, dx, _, rfl, hp, bfs_no _ _ _ (by decide +kernel) (by decide +kernel) (by decide +kernel), he A outer s Hx _ f c' σ G2 H2 same_nil w2.s (en.kp (fw.g.trans fw2.g)) _ fun y G3 H3 f3 r3 => ?_⟩
    have fw3 := w2.ofFr f3
    have w3 := w2.fw fw3
    have bk3 := bk2.fr f3
    refine ⟨p, y, dv, G3, b, r, rfl, w3.s, r3, hd, bk3, ok, hl, hlast, (q G3 H3 (fw.g.trans (fw2.g.trans fw3.g)) w3 bk3).1, fun hno G4 H4 f4 => ?_⟩
    have fw4 := w3.ofFr f4
    have w4 := w3.fw fw4
    exact toldE_of 4 (by decide) w4 fun v G5 H5 f5 r5 => (q G4 H4 (fw.g.trans (fw2.g.trans (fw3.g.trans fw4.g))) w4 (bk3.fr f4)).2 hno v G5 H5 f5 r5
  constructor
  · intro t ht hin Hs σ G H wz bk nw en Q q
    refine key Hs σ G H wz bk nw en Q fun G1 H1 k1 w1 b1 => ⟨fun t' ht' _ v G' H' fo bk' r' => ?_, fun hno => absurd hin (hno t ht)⟩
    rw [ht] at ht'
    cases ht'
    exact q v G' H' (k1.trans (Kp.of fo.g)) (w1.fo b1 nw fo) bk' r'
  · intro hno Hs σ G H wz bk nw en Q q
    refine key Hs σ G H wz bk nw en Q fun G1 H1 k1 w1 b1 => ⟨fun t' ht' hin => absurd hin (hno t' ht'), fun _ v G' H' f' r' => ?_⟩
    have fw' := w1.ofFr f'
    exact q v G' H' (k1.trans fw'.g) (w1.fw fw') (b1.fr f') r'
/-- _law_told(lambda: basket.undo()) -/
theorem b_undo {rs : List (List Int)} {z : List Int} (L : Tl X T c g CS ft cc P0 fdt fdr) (Tx : BTx X.K X.mg C) (F : FnMX X.prog X.w X.K X.mg X.base C "undo" 2 (spUndoX X.K C (c 7))) (hr : Room 4 X.A) (ok : BOk b) (hl : b.und.length < 100) (hrows : b.rows = rs ++ [z])
    (ho : ∀ (A : Around) (outer : List Env) (s : Shared) (Hx : Hp) (E : XK) (f c' : Addr), Ev (lamCxN X A outer s Hx E scope f c') Nil ρ (.Name "basket" po) (.ref p))
    (LS : LamX.LamS X.env.scope scope := by exact LamX.lamS_by (by first | kernel_rfl | rfl)) (hdef : defaultsOf params X.env = ([], []) := by rfl)
    (hbind : ∀ (q : Str) (cl : List (Str × Addr)) (pm cv ctv : Value), bindArgs (PySem.W.kla_fn "<lambda>" q params (.Call (.Attribute (.Name "basket" po) "undo" apos) [] [] p2) scope cl pm cv ctv) ⟨[], []⟩ = pure [] := by intro _ _ _ _ _; rfl) (hg : Gl X "_law_told" := by rfl)
    (hM : ∀ (A : Around) (outer : List Env) (s : Shared) (Hx : Hp) (E : XK) (f c' : Addr), MethOk (lamCxN X A outer s Hx E scope f c').env (.Name "basket" po) "undo" [] apos p2 := by intro _ _ _ _ _ _ _; exact ⟨_, rfl⟩) :
    (∀ r, rs.getLast? = some r → EvB X T a C p ρ (.Call (.Name "_law_told" p1) [.Lambda params (.Call (.Attribute (.Name "basket" po) "undo" apos) [] [] p2) scope lpos] [] pos) b (dS r) { b with rows := rs, und := b.und ++ [z] }) ∧
    (rs = [] → EvB X T a C p ρ (.Call (.Name "_law_told" p1) [.Lambda params (.Call (.Attribute (.Name "basket" po) "undo" apos) [] [] p2) scope lpos] [] pos) b (errD 7) b) := by
  have key : ∀ (Hs : Hp) (σ : L2.St) (G H : Hp), Wz T Hs a G H → Bk X.K C G H p b → Newly Hs p → En X.K G σ ρ → ∀ Q : VK,
      (∀ G1 H1, Kp G G1 → Wz T Hs a G1 H1 → Bk X.K C G1 H1 p b → ((∀ r, rs.getLast? = some r → ∀ v G' H', Fo p G1 H1 G' H' → Bk X.K C G' H' p { b with rows := rs, und := b.und ++ [z] } → Rp X.K G' v (dS r) → Q v H') ∧ (rs = [] → ∀ v G' H', Fr G1 H1 G' H' → Rp X.K G' v (errD 7) → Q v H'))) →
      wE X (.Call (.Name "_law_told" p1) [.Lambda params (.Call (.Attribute (.Name "basket" po) "undo" apos) [] [] p2) scope lpos] [] pos) σ H Q := by
    intro Hs σ G H wz bk nw en Q q
    refine w_toldx (k := 2) L.Ft L.TB L.hcode L.hmT L.hu hr wz.tb (fun H1 ext t1 A outer s Hx f c' hr' => ?_) LS hdef hbind hg
    have fw := wz.lam ext t1
    have w1 := wz.fw fw
    have bk1 := bk.fw wz fw
    obtain ⟨pl, hpl⟩ := hM A outer s Hx (toldE X.K c Q) f c'
    refine w_methX0 (pl := pl) F Tx.cl hr' takes_lam (ho A outer s Hx _ f c' σ (noT G) H1 same_nil w1.s (en.kp fw.g) _ fun x G2 H2 f2 r2 => ?_) hpl
    obtain rfl := r2.ref_of
    have fw2 := w1.ofFr f2
    have w2 := w1.fw fw2
    have bk2 := bk1.fr f2
    obtain ⟨dx, vf, vr, vu, hp, _⟩ := bk2.ex
    refine ⟨p, dx, _, rfl, hp, bfs_no _ _ _ (by decide +kernel) (by decide +kernel) (by decide +kernel), p, G2, b, rs, z, rfl, w2.s, bk2, ok, hl, hrows, (q G2 H2 (fw.g.trans fw2.g) w2 bk2).1, fun hno G4 H4 f4 => ?_⟩
    have fw4 := w2.ofFr f4
    have w4 := w2.fw fw4
    exact toldE_of 7 (by decide) w4 fun v G5 H5 f5 r5 => (q G4 H4 (fw.g.trans (fw2.g.trans fw4.g)) w4 (bk2.fr f4)).2 hno v G5 H5 f5 r5
  constructor
  · intro r hr1 Hs σ G H wz bk nw en Q q
    refine key Hs σ G H wz bk nw en Q fun G1 H1 k1 w1 b1 => ⟨fun r' hr' v G' H' fo bk' r'' => ?_, fun hno => absurd hr1 (by rw [hno]; exact fun z => nomatch z)⟩
    rw [hr1] at hr'
    cases hr'
    exact q v G' H' (k1.trans (Kp.of fo.g)) (w1.fo b1 nw fo) bk' r''
  · intro hno Hs σ G H wz bk nw en Q q
    refine key Hs σ G H wz bk nw en Q fun G1 H1 k1 w1 b1 => ⟨fun r' hr' => absurd hr' (by rw [hno]; exact fun z => nomatch z), fun _ v G' H' f' r' => ?_⟩
    have fw' := w1.ofFr f'
    exact q v G' H' (k1.trans fw'.g) (w1.fw fw') (b1.fr f') r'
/-- _law_told(lambda: basket.redo()) -/
theorem b_redo (L : Tl X T c g CS ft cc P0 fdt fdr) (Tx : BTx X.K X.mg C) (F : FnMX X.prog X.w X.K X.mg X.base C "redo" 2 (spRedoX X.K C (c 7))) (hr : Room 4 X.A) (ok : BOk b) (hl : b.rows.length < 100)
    (ho : ∀ (A : Around) (outer : List Env) (s : Shared) (Hx : Hp) (E : XK) (f c' : Addr), Ev (lamCxN X A outer s Hx E scope f c') Nil ρ (.Name "basket" po) (.ref p))
    (LS : LamX.LamS X.env.scope scope := by exact LamX.lamS_by (by first | kernel_rfl | rfl)) (hdef : defaultsOf params X.env = ([], []) := by rfl)
    (hbind : ∀ (q : Str) (cl : List (Str × Addr)) (pm cv ctv : Value), bindArgs (PySem.W.kla_fn "<lambda>" q params (.Call (.Attribute (.Name "basket" po) "redo" apos) [] [] p2) scope cl pm cv ctv) ⟨[], []⟩ = pure [] := by intro _ _ _ _ _; rfl) (hg : Gl X "_law_told" := by rfl)
    (hM : ∀ (A : Around) (outer : List Env) (s : Shared) (Hx : Hp) (E : XK) (f c' : Addr), MethOk (lamCxN X A outer s Hx E scope f c').env (.Name "basket" po) "redo" [] apos p2 := by intro _ _ _ _ _ _ _; exact ⟨_, rfl⟩) :
    (∀ us z, b.und = us ++ [z] → EvB X T a C p ρ (.Call (.Name "_law_told" p1) [.Lambda params (.Call (.Attribute (.Name "basket" po) "redo" apos) [] [] p2) scope lpos] [] pos) b (dS z) { b with rows := b.rows ++ [z], und := us }) ∧
    (b.und = [] → EvB X T a C p ρ (.Call (.Name "_law_told" p1) [.Lambda params (.Call (.Attribute (.Name "basket" po) "redo" apos) [] [] p2) scope lpos] [] pos) b (errD 7) b) := by
  have key : ∀ (Hs : Hp) (σ : L2.St) (G H : Hp), Wz T Hs a G H → Bk X.K C G H p b → Newly Hs p → En X.K G σ ρ → ∀ Q : VK,
      (∀ G1 H1, Kp G G1 → Wz T Hs a G1 H1 → Bk X.K C G1 H1 p b → ((∀ us z, b.und = us ++ [z] → ∀ v G' H', Fo p G1 H1 G' H' → Bk X.K C G' H' p { b with rows := b.rows ++ [z], und := us } → Rp X.K G' v (dS z) → Q v H') ∧ (b.und = [] → ∀ v G' H', Fr G1 H1 G' H' → Rp X.K G' v (errD 7) → Q v H'))) →
      wE X (.Call (.Name "_law_told" p1) [.Lambda params (.Call (.Attribute (.Name "basket" po) "redo" apos) [] [] p2) scope lpos] [] pos) σ H Q := by
    intro Hs σ G H wz bk nw en Q q
    refine w_toldx (k := 2) L.Ft L.TB L.hcode L.hmT L.hu hr wz.tb (fun H1 ext t1 A outer s Hx f c' hr' => ?_) LS hdef hbind hg
    have fw := wz.lam ext t1
    have w1 := wz.fw fw
    have bk1 := bk.fw wz fw
    obtain ⟨pl, hpl⟩ := hM A outer s Hx (toldE X.K c Q) f c'
    refine w_methX0 (pl := pl) F Tx.cl hr' takes_lam (ho A outer s Hx _ f c' σ (noT G) H1 same_nil w1.s (en.kp fw.g) _ fun x G2 H2 f2 r2 => ?_) hpl
    obtain rfl := r2.ref_of
    have fw2 := w1.ofFr f2
    have w2 := w1.fw fw2
    have bk2 := bk1.fr f2
    obtain ⟨dx, vf, vr, vu, hp, _⟩ := bk2.ex
    refine ⟨p, dx, _, rfl, hp, bfs_no _ _ _ (by decide +kernel) (by decide +kernel) (by decide +kernel), p, G2, b, rfl, w2.s, bk2, ok, hl, (q G2 H2 (fw.g.trans fw2.g) w2 bk2).1, fun hno G4 H4 f4 => ?_⟩
    have fw4 := w2.ofFr f4
    have w4 := w2.fw fw4
    exact toldE_of 7 (by decide) w4 fun v G5 H5 f5 r5 => (q G4 H4 (fw.g.trans (fw2.g.trans fw4.g)) w4 (bk2.fr f4)).2 hno v G5 H5 f5 r5
  constructor
  · intro us z hu1 Hs σ G H wz bk nw en Q q
    refine key Hs σ G H wz bk nw en Q fun G1 H1 k1 w1 b1 => ⟨fun us' z' hu' v G' H' fo bk' r'' => ?_, fun hno => absurd hno (by rw [hu1]; exact fun z => by simp at z)⟩
    rw [hu1] at hu'
    obtain ⟨rfl, e2⟩ := List.append_inj' hu' rfl
    cases e2
    exact q v G' H' (k1.trans (Kp.of fo.g)) (w1.fo b1 nw fo) bk' r''
  · intro hno Hs σ G H wz bk nw en Q q
    refine key Hs σ G H wz bk nw en Q fun G1 H1 k1 w1 b1 => ⟨fun us' z' hu' => absurd hno (by rw [hu']; exact fun z => by simp at z), fun _ v G' H' f' r' => ?_⟩
    have fw' := w1.ofFr f'
    exact q v G' H' (k1.trans fw'.g) (w1.fw fw') (b1.fr f') r'
theorem fo_new {G1 H1 G2 H2 : Hp} {x dx : Addr} {o1 o2 : HO} (hx : H1 x = none) (hdx : H1 dx = none) (fo : Fo x G1 (upd (upd H1 dx o1) x o2) G2 H2) : Fr G1 H1 G2 H2 := by
  have k1 : ∀ b o, H1 b = some o → upd (upd H1 dx o1) x o2 b = some o := fun b o e => by
    rw [upd_ne (ne_of_none e hx), upd_ne (ne_of_none e hdx)]
    exact e
  refine ⟨fun b o e => fo.h b o (ne_of_none e hx) (k1 b o e), fo.g, fo.s, fun b e1 e2 => fo.n b e1 fun z => ?_⟩
  cases e : H1 b with
  | none => exact e2 e
  | some o =>
    rw [k1 b o e] at z
    cases z
theorem fr_new {G1 H1 G2 H2 : Hp} {x dx : Addr} {o1 o2 : HO} (hx : H1 x = none) (hdx : H1 dx = none) (f : Fr G1 (upd (upd H1 dx o1) x o2) G2 H2) : Fr G1 H1 G2 H2 := by
  have k1 : ∀ b o, H1 b = some o → upd (upd H1 dx o1) x o2 b = some o := fun b o e => by
    rw [upd_ne (ne_of_none e hx), upd_ne (ne_of_none e hdx)]
    exact e
  refine ⟨fun b o e => f.h b o (k1 b o e), f.g, f.s, fun b e1 e2 => f.n b e1 fun z => ?_⟩
  cases e : H1 b with
  | none => exact e2 e
  | some o =>
    rw [k1 b o e] at z
    cases z
/-- how a basket is made -/
structure MkB (P : Program) (w : World) (K : PySem.W.Frag) (mg : Str → Option Value) (base : Heap) (C cF : Addr) : Prop where
  ex : ∃ (f : Addr) (fd : FuncData), Mk K C f ∧ FnOk P w K mg base (L2N.CX P w) 5 f fd ["self", "family"] (spInitX K C cF) ∧ Binds K fd ["self", "family"] []
theorem w_makeX {Q : VK} {E : XK} {e : Expr} {d : D} {cF : Addr} {H0 G H : Hp} {σ : L2.St} (M : MkB X.prog X.w X.K X.mg X.base C cF) (Tx : BTx X.K X.mg C) (hr : Room 6 X.A) (tk : L2N.Takes X (fun cls d _ H => E cls d H)) (en : En X.K G σ ρ) (sg : Same H0 G) (sh : Same G H) (h : Ev X H0 ρ e d) (hd : (∃ m, m ≤ 60 ∧ Sm m d) ∨ ∃ t, d.tyS = some t ∧ kitB t "tuple" = some false) (hf : (∃ n f, d = dFam n f ∧ FamOk n f) ∨ isFamD d = false)
    (q : ∀ n f, d = dFam n f → FamOk n f → ∀ x G' H', Fr G H G' H' → H x = none → Bk X.K C G' H' x ⟨n, f, [[]], []⟩ → Q (.ref x) H') (qx : isFamD d = false → ∀ G' H', Fr G H G' H' → E (.ref cF) none H') (hg : Gl X "Basket" := by rfl)
    (he : starEach [e] X.env = (false, eval e X.env) :: starEach [] X.env := by rfl) (hpl : (backTo pos (starEach [] X.env)).any (·.1) = false := by rfl) : wE X (.Call (.Name "Basket" p1) [e] [] pos) σ H Q := by
  obtain ⟨fI, fdI, Mk1, FI, bI⟩ := M.ex
  refine wE_of (pe_make Mk1 FI hr hg Tx.mgC bI .nil (L2N.passes_call tk fun _ _ _ _ h => h) (pa_cons pw pa_nil he) (by decide) he hpl) (useE en sg sh h fun v G1 H1 f1 r1 x dx hx hdx hne => ?_)
  have k1 : ∀ b o, H1 b = some o → upd (upd H1 dx (.own x)) x (.ins C dx []) b = some o := fun b o e => by
    rw [upd_ne (ne_of_none e hx), upd_ne (ne_of_none e hdx)]
    exact e
  exact ⟨x, dx, v, d, G1, rfl, fun b o e => k1 b o (f1.s b o e), f1.s.free hx, upd_same, r1, hd, hf, fun n f e1 e2 G2 H2 fo bk => ⟨rfl, q n f e1 e2 x G2 H2 (f1.trans (fo_new hx hdx fo)) (f1.h.free hx) bk⟩, fun e1 G2 H2 f2 => qx e1 G2 H2 (f1.trans (fr_new hx hdx f2))⟩
end

end G9
namespace G9
open PySem PySem.Spec PyProof.Rows L2 G9S
open L2H HotX
section
variable {X : Cx} {T : Tbs} {a : Addr} {ρ : Ro} {e1 e2 : Expr} {P P1 P2 : D → Prop} {pos p : Pos}
theorem p_cmp {op : CmpOp} {r : R2} (ho : OpR X (compareOp op) r) (ha : EvP X T a ρ e1 P1) (hb : EvP X T a ρ e2 P2) (hr : ∀ da db, P1 da → P2 db → ∃ d, P d ∧ Rd2 X.K Nil r da db d) (hm : behindInMarks op e2 = false := by first | exact nomark _ | rfl) : EvP X T a ρ (.Compare e1 [op] [e2] pos) P := fun Hs σ G H w en Q q =>
  wE_of (pe_cmpR ho pw pw hm) (p_two ha hb w en fun x y dx dy G1 H1 f1 r1 r2 h1 h2 => by
    obtain ⟨d, hd, k⟩ := hr dx dy h1 h2
    exact k x y G1 H1 same_nil f1.s r1 r2 _ fun z G3 H3 f3 r3 => q z d G3 H3 (f1.trans ((w.fw f1).ofFr f3)) r3 hd)
theorem okC {P : Program} {w : World} {K : PySem.W.Frag} {mg : Str → Option Value} {base : Heap} {x qual : Str} {st : Stmt} {f : Addr} {oc kV doc pm cdv ct : Value} {od an : Option Addr} {osl : Array (Option Value)} {N ps : List Str} {k : Nat} {sp : Sp}
    (lk : K.lookup f = some ⟨oc, od, .func (PySem.W.fnOf x qual (defArgs st) (defBody st) (defScope st) .none kV doc pm an cdv ct), osl⟩) (hcd : PySem.W.codeIn K cdv qual = true) (S : FnScope N ps (defScope st)) (len : ∀ vs H Q E, sp vs H Q E → vs.length = ps.length)
    (hbody : ∀ (A : Around) (outer : List Env) (s : Shared) (H : Hp) (E : XK) (vs : List V) (Q : VK), Room k (A.deeper (envOfC qual (defScope st) s.heap.objs.size f cdv)) → sp vs H Q E →
      wB (cxOf CX0 P w K mg base N qual (defScope st) f cdv A outer s H E).nox (defBody st) { nx := fun _ H' => Q .non H', rt := Q } (L2.start N vs) H) : FnOk P w K mg base CX0 (k + 1) f (PySem.W.fnOf x qual (defArgs st) (defBody st) (defScope st) .none kV doc pm an cdv ct) ps sp := by
  refine fn_of lk hcd S len fun A outer s H vs Q E hr hsp => ?_
  exact ⟨_, PSs.nox pbw, hbody A outer s H E vs Q hr hsp⟩
end
section
variable {X : Cx} {T : Tbs} {Hs : Hp} {a C p : Addr} {ρ : Ro} {e1 e2 : Expr} {pos pc : Pos} {σ : L2.St} {G H : Hp} {rest sa : List Stmt} {N : Ends} {b b' : Bsk} {d : D}
theorem sB_pass {n : Nat} (hu : X.A.units + 64 < cLine) (h : EvB X T a C p ρ e1 b d b') (h2 : Ev X Nil ρ e2 d) (hs : Sh n d) (hn : n ≤ 64) (he : d.eqv d = true) (w : Wz T Hs a G H) (bk : Bk X.K C G H p b) (nw : Newly Hs p) (en : En X.K G σ ρ)
    (k : ∀ G' H', Kp G G' → Wz T Hs a G' H' → Bk X.K C G' H' p b' → En X.K G' σ ρ → wB X rest N σ H') : wB X (.If (.Compare e1 [.NotEq] [e2] pc) sa [] pos :: rest) N σ H := by
  refine s_ifW (fun _ => False) (fun H' => ∃ G', Kp G G' ∧ Wz T Hs a G' H' ∧ Bk X.K C G' H' p b' ∧ En X.K G' σ ρ) ?_ (fun _ z => z.elim) fun H1 ⟨G1, k1, w1, b1, en1⟩ => wB_nil (k G1 H1 k1 w1 b1 en1)
  refine wT_of (pt_cmpR (op_neD hu) pw pw (nomark _)) (h Hs σ G H w bk nw en _ fun v G1 H1 k1 w1 b1 r1 => useE (en.kp k1) same_nil w1.s h2 fun y G2 H2 f2 r2 => ?_)
  refine rd_neD (H0 := Nil) hs hs hn hn v y G2 H2 same_nil f2.s (r1.up f2.g) r2 _ fun zz G3 H3 f3 r3 => ?_
  rw [he] at r3
  have f23 := f2.trans f3
  have fw := w1.ofFr f23
  exact ⟨false, r3.bl_of, (fun z => nomatch z), fun _ => ⟨G3, k1.trans fw.g, w1.fw fw, b1.fr f23, en.kp (k1.trans fw.g)⟩⟩
end
theorem err_sh (i : Nat) (hi : i < 8) : Sh 1 (errD i) := .tup fun d hd => by
  rcases List.mem_cons.mp hd with rfl | hd
  · exact .str _ (by decide +kernel)
  · rw [List.mem_singleton.mp hd]
    refine .str _ ?_
    have : ∀ i, i < 8 → PyData.strOk (kinds8.getD i Str.empty) = true := by decide +kernel
    exact this i hi
theorem err_eqv (i : Nat) (hi : i < 8) : (errD i).eqv (errD i) = true := by
  have : ∀ i, i < 8 → (errD i).eqv (errD i) = true := by decide +kernel
  exact this i hi
theorem rd_neB {K : PySem.W.Frag} {H0 : Hp} {i j : Bool} : Rd2 K H0 rNe (.bl i) (.bl j) (.bl (!decide (i = j))) := fun x y G H _ s rx ry Q q => by
  cases rx.bl_of
  cases ry.bl_of
  refine ⟨rfl, ?_⟩
  have e : decide (V.bl i = V.bl j) = decide (i = j) := decide_eq_decide.mpr ⟨fun z => by cases z; rfl, fun z => by rw [z]⟩
  rw [e]
  exact q _ _ _ (Fr.refl s) (.bl _)
section
variable {P : Program} {w : World} {K : PySem.W.Frag} {mg : Str → Option Value} {base : Heap}
/-! ### _law_end -/
abbrev NEnd : List Str := ["basket", "family", "rows", "bad"]
theorem sc_law_end : FnScope NEnd ["basket", "family", "rows"] (defScope s_law_end) := ⟨rfl, rfl, rfl, by decide +kernel, rfl, by decide +kernel, by decide +kernel⟩
def spEnd9 (K : PySem.W.Frag) (C : Addr) (T : Tbs) : Sp := fun vs H Q _ => ∃ (p a : Addr) (Hs G : Hp) (b : Bsk) (vf vr : V), vs = [.ref p, vf, vr] ∧ Wz T Hs a G H ∧ Bk K C G H p b ∧ Newly Hs p ∧ Rp K G vf (dFam b.n b.f) ∧ Rp K G vr (.lst (b.rows.map dS)) ∧ BOk b ∧ b.rows.length < 100 ∧ b.rows.head? = some [] ∧
  ∀ G' H', Kp G G' → Wz T Hs a G' H' → Bk K C G' H' p b → Q (.bl true) H'
/-- the own == -/
structure EqO (P : Program) (w : World) (K : PySem.W.Frag) (mg : Str → Option Value) (base : Heap) (C : Addr) : Prop where
  ex : ∃ (f : Addr) (fd : FuncData), FnOk P w K mg base CX0 1 f fd ["self", "other"] (spEq9 K C) ∧ PySem.W.findIn K (.ref C) "__eq__" = some (some (.ref f)) ∧ PySem.W.isFn K (.ref f) = true ∧ Binds K fd ["self", "other"] []
  ni : PySem.W.notFirst K C (.type "int") = true
abbrev cxE (P : Program) (w : World) (K : PySem.W.Frag) (mg : Str → Option Value) (base : Heap) (f : Addr) (cdv : Value) (A : Around) (outer : List Env) (s : Shared) (H : Hp) (E : XK) : Cx := (cxOf CX0 P w K mg base NEnd "_law_end" (defScope s_law_end) f cdv A outer s H E).nox
theorem ok_law_end {f0 : Addr} {oc kV doc pm ct : Value} {od an : Option Addr} {osl : Array (Option Value)} {C g CS ft cc P0 : Addr} {fdt fdr : FuncData} {c : Nat → Addr} {T : Tbs} (lk : K.lookup f0 = some ⟨oc, od, .func (PySem.W.fnOf "_law_end" "_law_end" (defArgs s_law_end) (defBody s_law_end) (defScope s_law_end) .none kV doc pm an (.ref cc) ct), osl⟩) (hcd : PySem.W.codeIn K (.ref cc) "_law_end" = true)
    (B : Blt mg) (Tx : BTx K mg C) (Ft : ToldTx P w K mg base c g CS ft fdt fdr) (TB : LamX.TabB base mg cc P0) (hmT : (P0, ("_law_end.<locals>." : Str) ++ "<lambda>") ∈ T) (hu : ∀ p ∈ T, p.1 = P0 → p.2 = ("_law_end.<locals>." : Str) ++ "<lambda>")
    (Ftk : FnMX P w K mg base C "take" 4 (spTakeX K C (c 4))) (Flv : FnMX P w K mg base C "leave" 2 (spLeaveX K C (c 4))) (M : MkB P w K mg base C (c 0)) (Eo : EqO P w K mg base C) :
    FnOk P w K mg base CX0 9 f0 (PySem.W.fnOf "_law_end" "_law_end" (defArgs s_law_end) (defBody s_law_end) (defScope s_law_end) .none kV doc pm an (.ref cc) ct) ["basket", "family", "rows"] (spEnd9 K C T) := by
  refine okC lk hcd sc_law_end (fun vs H Q E h => by obtain ⟨p, a, Hs, G, b, vf, vr, rfl, _⟩ := h; rfl) fun A outer s H E vs Q hr h => ?_
  obtain ⟨p, a, Hs, G, b, vf, vr, rfl, wz, bk, nw, rf, rr, ok, hl, hh, q⟩ := h
  have hN : NEnd.Nodup := sc_law_end.nd
  have en : En K G (L2.start NEnd [.ref p, vf, vr]) [some (.ref p), some (dFam b.n b.f), some (.lst (b.rows.map dS)), none] := en_start (N := NEnd) (ds := [.ref p, dFam b.n b.f, .lst (b.rows.map dS)]) (.cons (.ref p) (.cons rf (.cons rr .nil)))
  have hr1 := hr.mono (show 1 ≤ 8 by decide)
  have hr6 := hr.mono (show 6 ≤ 8 by decide)
  obtain ⟨fe, fde, Fe, he1, he2, he3⟩ := Eo.ex
  have hfam : ∀ {d : D}, d = dFam b.n b.f → (∃ m, m ≤ 60 ∧ Sm m d) ∨ ∃ t, d.tyS = some t ∧ kitB t "tuple" = some false := fun e => .inl ⟨3, by decide, by rw [e]; exact ok.fam.sm⟩
  have nofam : isFamD (dFam b.n b.f) = false → False := fun z => by rw [ok.fam.is] at z; cases z
  have nn : ∀ {H : Hp} {x : Addr} {bb : Bsk} {G : Hp}, Bk K C G H x bb → H x ≠ none := fun h z => by
    obtain ⟨dx, fs, e⟩ := h.at_
    rw [e] at z
    cases z
  have inj : ∀ {n m : Int} {f g : List (List Int)}, dFam n f = dFam m g → n = m ∧ f = g := fun {n m f g} e => by
    have h1 := eqv_fam n m f g
    rw [e, eqv_fam] at h1
    simp at h1
    exact ⟨h1.1.symm ▸ rfl, h1.2⟩
  -- basket == 5 or not Basket(family) == Basket(family)
  refine s_ifW (fun _ => False) (fun H' => ∃ G', Kp G G' ∧ Wz T Hs a G' H' ∧ Bk K C G' H' p b) ?_ (fun _ z => z.elim) fun H1 ⟨G1, k1, w1, b1⟩ => wB_nil ?_
  · refine wT_of (PW.pt (pw_or ptw (pw_or1 (pt_not (pt_cmpR (op_own Fe he1 he2 he3 hr1) pw pw (nomark _)))))) ?_
    refine wT_of (pt_cmpR (op_ownI Fe he1 he2 Eo.ni he3 hr1) pw pw (nomark _)) (useE en same_nil wz.s (e_v 0) fun x G1 H1 f1 r1 => w_int ?_)
    obtain rfl := r1.ref_of
    have b1 := bk.fr f1
    obtain ⟨dx, fs, e1⟩ := b1.at_
    refine ⟨p, 5, dx, fs, rfl, rfl, e1, .inr ⟨p, 5, G1, b, rfl, f1.s, b1, fun G2 H2 f2 => ⟨⟨_, rfl⟩, false, rfl, ?_⟩⟩⟩
    have f12 := f1.trans f2
    have fw2 := wz.ofFr f12
    have w2 := wz.fw fw2
    have en2 := en.kp fw2.g
    show wE _ _ _ _ _
    refine w_makeX (E := fun _ _ _ => False) (d := dFam b.n b.f) M Tx hr6 takes0N en2 same_nil w2.s (e_v 1) (hfam rfl) (.inl ⟨_, _, rfl, ok.fam⟩) (fun n f e1 e2 x3 G3 H3 f3 n3 bk3 => ?_) (fun z => (nofam z).elim)
    obtain ⟨rfl, rfl⟩ := inj e1
    have fw3 := w2.ofFr f3
    have w3 := w2.fw fw3
    refine w_makeX (E := fun _ _ _ => False) (d := dFam b.n b.f) M Tx hr6 takes0N (en2.kp fw3.g) same_nil w3.s (e_v 1) (hfam rfl) (.inl ⟨_, _, rfl, ok.fam⟩) (fun n f e1 e2 x4 G4 H4 f4 n4 bk4 => ?_) (fun z => (nofam z).elim)
    obtain ⟨rfl, rfl⟩ := inj e1
    have fw4 := w3.ofFr f4
    have w4 := w3.fw fw4
    have bk34 := bk3.fr f4
    obtain ⟨dx3, fs3, e3⟩ := bk34.at_
    obtain ⟨dx4, fs4, e4⟩ := bk4.at_
    refine ⟨x3, x4, dx3, dx4, fs3, fs4, rfl, rfl, e3, e4, .inl ⟨x3, x4, G4, _, _, rfl, fun z => nn bk3 (z ▸ n4), w4.s, bk34, bk4, fun G5 H5 f5 => ⟨⟨_, rfl⟩, true, ?_, ?_⟩⟩⟩
    · unfold eqB
      simp
    · have fw5 := w4.ofFr f5
      exact ⟨(fun z => nomatch z), fun _ => ⟨G5, fw2.g.trans (fw3.g.trans (fw4.g.trans fw5.g)), w4.fw fw5, (((b1.fr f2).fr f3).fr f4).fr f5⟩⟩
  have en1 := en.kp k1
  -- (basket == Basket(family)) != (len(rows) == 1)
  refine s_ifW (fun _ => False) (fun H' => ∃ G', Kp G1 G' ∧ Wz T Hs a G' H' ∧ Bk K C G' H' p b) ?_ (fun _ z => z.elim) fun H2 ⟨G2, k2, w2, b2⟩ => wB_nil ?_
  · refine wT_of (pt_cmpR op_ne (pe_cmpR (op_own Fe he1 he2 he3 hr1) pw pw (nomark _)) pw (nomark _)) (useE en1 same_nil w1.s (e_v 0) fun x G2 H2 f2 r2 => ?_)
    obtain rfl := r2.ref_of
    have fw2 := w1.ofFr f2
    have w2 := w1.fw fw2
    refine w_makeX (E := fun _ _ _ => False) (d := dFam b.n b.f) M Tx hr6 takes0N (en1.kp fw2.g) same_nil w2.s (e_v 1) (hfam rfl) (.inl ⟨_, _, rfl, ok.fam⟩) (fun n f e1 e2 x3 G3 H3 f3 n3 bk3 => ?_) (fun z => (nofam z).elim)
    obtain ⟨rfl, rfl⟩ := inj e1
    have fw3 := w2.ofFr f3
    have w3 := w2.fw fw3
    have b2 := b1.fr f2
    have b3 := b2.fr f3
    obtain ⟨dx3, fs3, e3⟩ := b3.at_
    obtain ⟨dx4, fs4, e4⟩ := bk3.at_
    refine ⟨p, x3, dx3, dx4, fs3, fs4, rfl, rfl, e3, e4, .inl ⟨p, x3, G3, _, _, rfl, fun z => nn b2 (z ▸ n3), w3.s, b3, bk3, fun G5 H5 f5 => ⟨⟨_, rfl⟩, ?_⟩⟩⟩
    have fw5 := w3.ofFr f5
    have w5 := w3.fw fw5
    refine useE (en1.kp (fw2.g.trans (fw3.g.trans fw5.g))) same_nil w5.s (e_cmp op_eq (e_lenL B (e_v 2)) e_int rd_eqI) fun y G6 H6 f6 r6 => ?_
    refine rd_neB (K := K) (H0 := Nil) _ _ G6 H6 same_nil f6.s (.bl _) r6 _ fun zz G7 H7 f7 r7 => ?_
    have e : eqB b ⟨b.n, b.f, [[]], []⟩ = decide (((b.rows.map dS).length : Int) = 1) := by
      unfold eqB
      rw [List.length_map]
      simp only [decide_true, Bool.true_and]
      refine decide_eq_decide.mpr ⟨fun z => by rw [z]; rfl, fun z => ?_⟩
      match hq : b.rows, z with
      | [x], _ =>
        rw [hq] at hh
        cases hh
        rfl
      | [], z => simp at z
      | _ :: _ :: _, z => simp at z; omega
    rw [e] at r7
    simp only [decide_true, Bool.not_true] at r7
    have fw6 := w5.ofFr f6
    have w6 := w5.fw fw6
    have fw7 := w6.ofFr f7
    exact ⟨false, r7.bl_of, (fun z => nomatch z), fun _ => ⟨G7, fw2.g.trans (fw3.g.trans (fw5.g.trans (fw6.g.trans fw7.g))), w6.fw fw7, ((b3.fr f5).fr f6).fr f7⟩⟩
  have en2 := en1.kp k2
  -- wrong things
  obtain ⟨r, hlast⟩ : ∃ r, b.rows.getLast? = some r := by
    cases e : b.rows.getLast? with
    | some r => exact ⟨r, rfl⟩
    | none =>
      rw [List.getLast?_eq_none_iff.mp e] at hh
      cases hh
  have hset := ok.sets r (List.mem_of_getLast? hlast)
  refine z_for (α := D) 3 id [.non, .int (-1), .bl true, .str "0", .tup [.int 0], .int b.n] (fun i ρ' G' H' => (∃ x, ρ' = [some (.ref p), some (dFam b.n b.f), some (.lst (b.rows.map dS)), x]) ∧ Bk K C G' H' p b ∧ Kp G2 G')
    (j_lst (l_lst (a_cons e_non (a_cons (e_un un_neg e_int rd_neg) (a_cons e_bl (a_cons e_str (a_cons (e_tup (a_cons e_int a_nil) (by show 1 ≤ 100000; decide)) (a_cons (e_at (e_v 1) rfl) a_nil)))))) (by show 6 ≤ 100000; decide)).ev) w2 en2
    (fun G3 H3 f3 => ⟨⟨_, rfl⟩, b2.fw w2 f3, f3.g⟩) (fun i x ρ' σ' G' H' G3 H3 hx hJ f3 w3 en3 => ?_) fun ρ' σ' G' H' hJ w' en' => ?_
  · obtain ⟨⟨y, rfl⟩, b', k'⟩ := hJ
    have b3 := b'.fw' (bk.ne wz.da) f3
    have hxm := List.mem_of_getElem? hx
    have L : Tl (cxE P w K mg base f0 (.ref cc) A outer s H E) T c g CS ft cc P0 fdt fdr := ⟨Ft, TB, rfl, hmT, hu⟩
    have hty : x.tyS ≠ none := by
      simp only [List.mem_cons, List.not_mem_nil, or_false] at hxm
      rcases hxm with rfl | rfl | rfl | rfl | rfl | rfl <;> exact fun z => nomatch z
    have hbad : ∀ t : Int, x = .int t → t = -1 ∨ t = b.n := fun t e => by
      subst e
      simpa using hxm
    have hn1 : ∀ t, x = .int t → t ∉ freeOf b.n b.f r := fun t e z => by
      obtain ⟨z1, z2, _⟩ := free_mem z
      have := hbad t e
      omega
    have hn2 : ∀ t, x = .int t → t ∉ r := fun t e z => by
      have := hset.low t z
      have := hbad t e
      omega
    refine sB_pass hr.units ((b_take (scope := _) L Tx Ftk hr6 hty ok hl hlast (fun _ _ _ _ _ _ _ => e_v 0) fun _ _ _ _ _ _ _ => e_v 3).2 hn1) (e_tup (a_cons e_str (a_cons e_str a_nil)) (by show 2 ≤ 100000; decide)) (err_sh 4 (by decide)) (by decide) (err_eqv 4 (by decide)) w3 b3 nw en3 fun G4 H4 k4 w4 b4 en4 => ?_
    refine sB_pass hr.units ((b_leave (scope := _) L Tx Flv hr6 hty ok hl hlast (fun _ _ _ _ _ _ _ => e_v 0) fun _ _ _ _ _ _ _ => e_v 3).2 hn2) (e_tup (a_cons e_str (a_cons e_str a_nil)) (by show 2 ≤ 100000; decide)) (err_sh 4 (by decide)) (by decide) (err_eqv 4 (by decide)) w4 b4 nw en4 fun G5 H5 k5 w5 b5 en5 => ?_
    exact wB_nil ⟨_, G5, f3.g.trans (k4.trans k5), w5, en5, ⟨_, rfl⟩, b5, k'.trans (f3.g.trans (k4.trans k5))⟩
  · obtain ⟨⟨y, rfl⟩, b', k'⟩ := hJ
    have L : Tl (cxE P w K mg base f0 (.ref cc) A outer s H E) T c g CS ft cc P0 fdt fdr := ⟨Ft, TB, rfl, hmT, hu⟩
    refine z_ret (P := fun d => d = .bl true) (p_cmp (op_eqD hr.units) (p_told (k := 6) (o := .exc 0) L.Ft L.TB L.hcode L.hmT L.hu hr (fun i hi => by cases hi; decide) fun E A outer s Hx f c' hr' σ G H sg sh en Q qv qx => ?_) (p_of (e_tup (a_cons e_str (a_cons e_str a_nil)) (by show 2 ≤ 100000; decide))) fun da db h1 h2 => ⟨.bl true, rfl, ?_⟩) w' en' fun v d G6 H6 f6 r6 h6 => ?_
    · exact w_makeX (E := E) (d := .non) M Tx hr' takes_lam en same_nil sh e_non (.inl ⟨0, by decide, .non⟩) (.inr rfl) (fun n f e => nomatch e) fun _ G2 H2 f2 => qx 0 rfl G2 H2 f2
    · subst h1
      subst h2
      have := rd_eqD (K := K) (H0 := Nil) (err_sh 0 (by decide)) (err_sh 0 (by decide))
      rw [err_eqv 0 (by decide)] at this
      exact this
    · subst h6
      obtain rfl := r6.bl_of
      exact q G6 H6 (k1.trans (k2.trans (k'.trans f6.g))) (w'.fw f6) (b'.fw' (bk.ne wz.da) f6)
end

end G9
namespace G9
open PySem PySem.Spec PyProof.Rows L2 G9S
open L2H HotX
section
variable {X : Cx} {T : Tbs} {Hs : Hp} {a : Addr} {ρ : Ro} {e1 e2 e3 : Expr} {pos p : Pos} {x y z : Str} {px py pz pt : Pos} {kt k2 pt2} {σ : L2.St} {G H : Hp} {rest : List Stmt} {N : Ends}
/-- x, y, z = e1, e2, e3, by the tuple -/
theorem z_tup3 {P : D → D → D → Prop} (i j l : Nat) (h : EvPA X T a ρ [e1, e2, e3] fun ds => ∃ d1 d2 d3, ds = [d1, d2, d3] ∧ P d1 d2 d3) (w : Wz T Hs a G H) (en : En X.K G σ ρ) (k : ∀ d1 d2 d3, P d1 d2 d3 → ∀ σ' G' H', Fw T a G H G' H' → Wz T Hs a G' H' → En X.K G' σ' (((ρ.set i (some d1)).set j (some d2)).set l (some d3)) → wB X rest N σ' H') (hN : X.N.Nodup := by assumption)
    (g1 : PG X (.Name x px) (gName i) := by first | exact pg_name (by assumption) rfl (Or.inl rfl) | exact pg_name (by assumption) rfl (Or.inr rfl)) (g2 : PG X (.Name y py) (gName j) := by first | exact pg_name (by assumption) rfl (Or.inl rfl) | exact pg_name (by assumption) rfl (Or.inr rfl)) (g3 : PG X (.Name z pz) (gName l) := by first | exact pg_name (by assumption) rfl (Or.inl rfl) | exact pg_name (by assumption) rfl (Or.inr rfl))
    (hc : X.calm = true := by rfl) (hn : (assignEach [Expr.Name x px, .Name y py, .Name z pz] X.env).length = 3 := by rfl) (hst : (assignEach [Expr.Name x px, .Name y py, .Name z pz] X.env).findIdx? (·.1) = none := by rfl)
    (hs1 : (assignEach [Expr.Name x px, .Name y py, .Name z pz] X.env).map (·.2) = assign (.Name x px) X.env :: (assignEach [.Name y py, .Name z pz] X.env).map (·.2) := by rfl) (hs2 : (assignEach [Expr.Name y py, .Name z pz] X.env).map (·.2) = assign (.Name y py) X.env :: (assignEach [.Name z pz] X.env).map (·.2) := by rfl) (hs3 : (assignEach [Expr.Name z pz] X.env).map (·.2) = assign (.Name z pz) X.env :: (assignEach [] X.env).map (·.2) := by rfl)
    (hs : swapsWithSole [.Tuple [.Name x px, .Name y py, .Name z pz] kt pt] (.Tuple [e1, e2, e3] k2 pt2) pos.line X.env = pure false := by rfl) (hw : swappedStores [.Tuple [.Name x px, .Name y py, .Name z pz] kt pt] (.Tuple [e1, e2, e3] k2 pt2) X.env = pure none := by rfl) (h1 : (assignEach [.Tuple [.Name x px, .Name y py, .Name z pz] kt pt] X.env).map (·.2) = [assign (.Tuple [.Name x px, .Name y py, .Name z pz] kt pt) X.env] := by rfl) :
    wB X (.Assign [.Tuple [.Name x px, .Name y py, .Name z pz] kt pt] (.Tuple [e1, e2, e3] k2 pt2) pos :: rest) N σ H := by
  refine wB_cons (wS_of (ps_asg (pe_tup paw) (pg_tup hc (pgs_cons g1 (pgs_cons g2 (pgs_cons g3 pgs_nil hs3) hs2) hs1) hn hst) hs hw h1) (h Hs σ G H w en _ fun vs ds G1 H1 f1 r1 ⟨d1, d2, d3, e, hP⟩ => ?_))
  subst e
  cases r1 with
  | cons ra r1 =>
    cases r1 with
    | cons rb r1 =>
      cases r1 with
      | cons rc r1 =>
        cases r1
        refine ⟨by show 3 ≤ sizeLine; decide, fun q hq => ⟨q, _, rfl, .inl (.inl upd_same), rfl, _, _, rfl, _, _, rfl, _, _, rfl, rfl, ?_⟩⟩
        exact k d1 d2 d3 hP _ G1 _ (f1.trans ((w.fw f1).ofFr (Fr.newH f1.s hq))) (w.fw (f1.trans ((w.fw f1).ofFr (Fr.newH f1.s hq)))) ((((en.kp f1.g).set i ra).set j rb).set l rc)
/-- x, y = e1, e2, by the tuple -/
theorem z_tup2 {P : D → D → Prop} (i j : Nat) (h : EvPA X T a ρ [e1, e2] fun ds => ∃ d1 d2, ds = [d1, d2] ∧ P d1 d2) (w : Wz T Hs a G H) (en : En X.K G σ ρ) (k : ∀ d1 d2, P d1 d2 → ∀ σ' G' H', Fw T a G H G' H' → Wz T Hs a G' H' → En X.K G' σ' ((ρ.set i (some d1)).set j (some d2)) → wB X rest N σ' H') (hN : X.N.Nodup := by assumption)
    (g1 : PG X (.Name x px) (gName i) := by first | exact pg_name (by assumption) rfl (Or.inl rfl) | exact pg_name (by assumption) rfl (Or.inr rfl)) (g2 : PG X (.Name y py) (gName j) := by first | exact pg_name (by assumption) rfl (Or.inl rfl) | exact pg_name (by assumption) rfl (Or.inr rfl))
    (hc : X.calm = true := by rfl) (hn : (assignEach [Expr.Name x px, .Name y py] X.env).length = 2 := by rfl) (hst : (assignEach [Expr.Name x px, .Name y py] X.env).findIdx? (·.1) = none := by rfl)
    (hs1 : (assignEach [Expr.Name x px, .Name y py] X.env).map (·.2) = assign (.Name x px) X.env :: (assignEach [.Name y py] X.env).map (·.2) := by rfl) (hs2 : (assignEach [Expr.Name y py] X.env).map (·.2) = assign (.Name y py) X.env :: (assignEach [] X.env).map (·.2) := by rfl)
    (hs : swapsWithSole [.Tuple [.Name x px, .Name y py] kt pt] (.Tuple [e1, e2] k2 pt2) pos.line X.env = pure false := by rfl) (hw : swappedStores [.Tuple [.Name x px, .Name y py] kt pt] (.Tuple [e1, e2] k2 pt2) X.env = pure none := by rfl) (h1 : (assignEach [.Tuple [.Name x px, .Name y py] kt pt] X.env).map (·.2) = [assign (.Tuple [.Name x px, .Name y py] kt pt) X.env] := by rfl) :
    wB X (.Assign [.Tuple [.Name x px, .Name y py] kt pt] (.Tuple [e1, e2] k2 pt2) pos :: rest) N σ H := by
  refine wB_cons (wS_of (ps_asg (pe_tup paw) (pg_tup hc (pgs_cons g1 (pgs_cons g2 pgs_nil hs2) hs1) hn hst) hs hw h1) (h Hs σ G H w en _ fun vs ds G1 H1 f1 r1 ⟨d1, d2, e, hP⟩ => ?_))
  subst e
  cases r1 with
  | cons ra r1 =>
    cases r1 with
    | cons rb r1 =>
      cases r1
      refine ⟨by show 2 ≤ sizeLine; decide, fun q hq => ⟨q, _, rfl, .inl (.inl upd_same), rfl, _, _, rfl, _, _, rfl, rfl, ?_⟩⟩
      exact k d1 d2 hP _ G1 _ (f1.trans ((w.fw f1).ofFr (Fr.newH f1.s hq))) (w.fw (f1.trans ((w.fw f1).ofFr (Fr.newH f1.s hq)))) (((en.kp f1.g).set i ra).set j rb)
/-- x, y, z = e1, e2, e3 with plain names -/
theorem z_par3 {P : D → D → D → Prop} (i j l : Nat) (h : EvPA X T a ρ [e1, e2, e3] fun ds => ∃ d1 d2 d3, ds = [d1, d2, d3] ∧ P d1 d2 d3) (w : Wz T Hs a G H) (en : En X.K G σ ρ) (k : ∀ d1 d2 d3, P d1 d2 d3 → ∀ σ' G' H', Fw T a G H G' H' → Wz T Hs a G' H' → En X.K G' σ' (((ρ.set i (some d1)).set j (some d2)).set l (some d3)) → wB X rest N σ' H')
    (hN : X.N.Nodup := by assumption) (hi : X.N[i]? = some x := by rfl) (hj : X.N[j]? = some y := by rfl) (hl : X.N[l]? = some z := by rfl) (hij : i ≠ j := by decide) (hil : i ≠ l := by decide) (hjl : j ≠ l := by decide)
    (hx : X.env.scope.names.lookup x = some .local := by rfl) (hy : X.env.scope.names.lookup y = some .local := by rfl) (hz : X.env.scope.names.lookup z = some .local := by rfl)
    (hw : swappedStores [.Tuple [.Name x px, .Name y py, .Name z pz] kt pt] (.Tuple [e1, e2, e3] k2 pt2) X.env = pure (some [x, y, z]) := by rfl) (hs : swapsWithSole [.Tuple [.Name x px, .Name y py, .Name z pz] kt pt] (.Tuple [e1, e2, e3] k2 pt2) pos.line X.env = pure false := by rfl) (hc : X.calm = true := by rfl) :
    wB X (.Assign [.Tuple [.Name x px, .Name y py, .Name z pz] kt pt] (.Tuple [e1, e2, e3] k2 pt2) pos :: rest) N σ H := by
  refine wB_cons (wS_of (ps_par3 hc hN hi hj hl hij hil hjl hx hy hz paw hw hs) (h Hs σ G H w en _ fun vs ds G1 H1 f1 r1 ⟨d1, d2, d3, e, hP⟩ => ?_))
  subst e
  cases r1 with
  | cons ra r1 =>
    cases r1 with
    | cons rb r1 =>
      cases r1 with
      | cons rc r1 =>
        cases r1
        exact ⟨_, _, _, rfl, k d1 d2 d3 hP _ G1 H1 f1 (w.fw f1) ((((en.kp f1.g).set i ra).set j rb).set l rc)⟩
/-- a, b = x, y: plain -/
theorem pa_two {P1 P2 : D → Prop} (h1 : EvP X T a ρ e1 P1) (h2 : EvP X T a ρ e2 P2) (hs : starEach [e1, e2] X.env = (false, eval e1 X.env) :: starEach [e2] X.env := by rfl) (hs2 : starEach [e2] X.env = (false, eval e2 X.env) :: starEach [] X.env := by rfl) : EvPA X T a ρ [e1, e2] fun ds => ∃ d1 d2, ds = [d1, d2] ∧ P1 d1 ∧ P2 d2 :=
  p_cons h1 (p_cons (P := fun ds => ∃ d, ds = [d] ∧ P2 d) h2 p_nil (fun d ds q1 q2 => ⟨d, by rw [q2], q1⟩) hs2) (fun d ds q1 ⟨d2, q2, q3⟩ => ⟨d, d2, by rw [q2], q1, q3⟩) hs
theorem pa_three {P1 P2 P3 : D → Prop} (h1 : EvP X T a ρ e1 P1) (h2 : EvP X T a ρ e2 P2) (h3 : EvP X T a ρ e3 P3) (hs : starEach [e1, e2, e3] X.env = (false, eval e1 X.env) :: starEach [e2, e3] X.env := by rfl) (hs2 : starEach [e2, e3] X.env = (false, eval e2 X.env) :: starEach [e3] X.env := by rfl) (hs3 : starEach [e3] X.env = (false, eval e3 X.env) :: starEach [] X.env := by rfl) : EvPA X T a ρ [e1, e2, e3] fun ds => ∃ d1 d2 d3, ds = [d1, d2, d3] ∧ P1 d1 ∧ P2 d2 ∧ P3 d3 :=
  p_cons h1 (pa_two h2 h3 hs2 hs3) (fun d ds q1 ⟨d2, d3, q2, q3, q4⟩ => ⟨d, d2, d3, by rw [q2], q1, q3, q4⟩) hs
end

section
variable {X : Cx} {C : Addr} {H0 : Hp} {ρ : Ro} {o : Expr} {p dx : Addr} {vf vr vu : V} {b : Bsk} {p1 pos : Pos}
/-- how len(basket) goes -/
structure LenO (P : Program) (w : World) (K : PySem.W.Frag) (mg : Str → Option Value) (base : Heap) (C : Addr) : Prop where
  ex : ∃ (f : Addr) (fd : FuncData), FnOk P w K mg base CX0 2 f fd ["self"] (spB K C R_len) ∧ PySem.W.findIn K (.ref C) "__len__" = some (some (.ref f)) ∧ PySem.W.isFn K (.ref f) = true ∧ Binds K fd ["self"] []
theorem e_lenB {r : List Int} (Lo : LenO X.prog X.w X.K X.mg X.base C) (B : Blt X.mg) (h : Ev X H0 ρ o (.ref p)) (I : InB X.K C H0 p dx vf vr vu b) (hr : Room 3 X.A) (hl : b.rows.getLast? = some r) (hz : r.length ≤ 1000) (hg : Gl X "len" := by rfl)
    (he : starEach [o] X.env = (false, eval o X.env) :: starEach [] X.env := by rfl) (hpl : (backTo pos (starEach [] X.env)).any (·.1) = false := by rfl) : Ev X H0 ρ (.Call (.Name "len" p1) [o] [] pos) (.int (r.length : Int)) := by
  obtain ⟨f, fd, F, h1, h2, h3⟩ := Lo.ex
  refine e_callB (cr_lenO F h1 h2 h3 hr) B.len_ (a_cons h a_nil he) (fun xs G H sg sh rx Q q => ?_) (by decide +kernel) hg (by decide) (by decide) he hpl
  cases rx with
  | cons r1 rx =>
    cases rx
    obtain rfl := r1.ref_of
    have I1 := I.up sg
    refine ⟨p, dx, _, rfl, sh _ _ I1.at_, p, hide G p, b, .int (r.length : Int), rfl, same_hide sh, I1.bk sh, ⟨r, hl, rfl⟩, fun v G2 H2 f2 r2 => ?_⟩
    have f3 := f2.show I1.at_ (sh _ _ I1.at_)
    exact ⟨⟨_, r2.int_of, by omega, by omega⟩, q v _ H2 f3 (r2.up (Same.new (f2.n p hide_same (by rw [sh _ _ I1.at_]; exact fun z => nomatch z))))⟩
end

end G9
namespace G9
open PySem PySem.Spec PyProof.Rows L2 G9S
open L2H HotX
section
variable {P : Program} {w : World} {K : PySem.W.Frag} {mg : Str → Option Value} {base : Heap}
abbrev N9 : List Str := ["script", "dice", "family", "basket", "rows", "undone", "turn", "step", "thing", "now", "due", "made", "one"]
theorem sc_law : FnScope N9 ["script"] (defScope s_law) := ⟨rfl, rfl, rfl, by decide +kernel, rfl, by decide +kernel, by decide +kernel⟩
def forB : Stmt → List Stmt
  | .For _ _ b _ _ => b
  | _ => []
abbrev bodyRound : List Stmt := forB ((defBody s_law).getD 0 (.Pass ⟨0, 0, 0, 0⟩))
abbrev bodyTurn : List Stmt := forB (bodyRound.getD 2 (.Pass ⟨0, 0, 0, 0⟩))
abbrev cx9 (P : Program) (w : World) (K : PySem.W.Frag) (mg : Str → Option Value) (base : Heap) (f : Addr) (cdv : Value) (A : Around) (outer : List Env) (s : Shared) (H : Hp) (E : XK) : Cx := (cxOf CX0 P w K mg base N9 "law" (defScope s_law) f cdv A outer s H E).nox
abbrev ro9 (a p : Addr) (b : Bsk) (s7 s8 s9 s10 s11 : Option D) : Ro := [none, some (.ref a), some (dFam b.n b.f), some (.ref p), some (.lst (b.rows.map dS)), some (.lst (b.und.map dS)), none, s7, s8, s9, s10, s11, none]
/-- what the law leans on -/
structure L9 (P : Program) (w : World) (K : PySem.W.Frag) (mg : Str → Option Value) (base : Heap) (C : Addr) (c : Nat → Addr) (g CS ft : Addr) (fdt fdr : FuncData) (cc P0 : Addr) (T : Tbs) : Prop where
  B : Blt mg
  Tx : BTx K mg C
  Ft : ToldTx P w K mg base c g CS ft fdt fdr
  TB : LamX.TabB base mg cc P0
  hmT : (P0, ("law.<locals>." : Str) ++ "<lambda>") ∈ T
  hu : ∀ p ∈ T, p.1 = P0 → p.2 = ("law.<locals>." : Str) ++ "<lambda>"
  roll : Fn P w K mg base "_law_roll" 2 spRoll
  fam : Fn P w K mg base "_law_family" 3 (spFam K)
  rounds : Fn P w K mg base "_law_rounds" 2 (spRounds K)
  free_ : Fn P w K mg base "_law_free" 3 (spR K R_law_free)
  end_ : Fn P w K mg base "_law_end" 9 (spEnd9 K C T)
  picked : FnM P w K mg base C "picked" 1 (spB K C R_picked)
  free : FnM P w K mg base C "free" 3 (spB K C R_free)
  take : FnMX P w K mg base C "take" 4 (spTakeX K C (c 4))
  leave : FnMX P w K mg base C "leave" 2 (spLeaveX K C (c 4))
  undo : FnMX P w K mg base C "undo" 2 (spUndoX K C (c 7))
  redo : FnMX P w K mg base C "redo" 2 (spRedoX K C (c 7))
  M : MkB P w K mg base C (c 0)
  Lo : LenO P w K mg base C
structure B9 (i : Nat) (b : Bsk) : Prop where
  ok : BOk b
  l1 : b.rows.length ≤ 1 + i
  l2 : b.und.length ≤ i
  hd : b.rows.head? = some []
  us : ∀ o ∈ b.und, SetIn b.n o
variable {C : Addr} {c : Nat → Addr} {g CS ft : Addr} {fdt fdr : FuncData} {cc P0 : Addr} {T : Tbs} {A : Around} {outer : List Env} {s : Shared} {Hx : Hp} {E : XK} {f0 : Addr} {Hs G H : Hp} {a p : Addr} {σ : L2.St} {N : Ends}
theorem eqv_bl (x y : Bool) : (D.bl x).eqv (.bl y) = decide (x = y) := by cases x <;> cases y <;> rfl
/-- the checks at a turn's end -/
theorem check9 (L : L9 P w K mg base C c g CS ft fdt fdr cc P0 T) (hr : Room 9 (A.deeper (envOfC "law" (defScope s_law) s.heap.objs.size f0 (.ref cc)))) {b : Bsk} {i : Nat} (hi : i < 10) (ok : B9 (i + 1) b) {n : Nat} {d : D} {s7 s8 s9 : Option D} (hd : Sh n d) (hn : n ≤ 64) (he : d.eqv d = true) (wz : Wz T Hs a G H) (bk : Bk K C G H p b) (en : En K G σ (ro9 a p b s7 s8 s9 (some d) (some d)))
    (done : ∀ G' H', Kp G G' → Wz T Hs a G' H' → Bk K C G' H' p b → En K G' σ (ro9 a p b s7 s8 s9 (some d) (some d)) → N.nx σ H') : wB (cx9 P w K mg base f0 (.ref cc) A outer s Hx E) (bodyTurn.drop 3) N σ H := by
  have hN : N9.Nodup := sc_law.nd
  have B := L.B
  obtain ⟨r, hlast⟩ : ∃ r, b.rows.getLast? = some r := by
    cases e : b.rows.getLast? with
    | some r => exact ⟨r, rfl⟩
    | none =>
      have := ok.hd
      rw [List.getLast?_eq_none_iff.mp e] at this
      cases this
  have hset := ok.ok.sets r (List.mem_of_getLast? hlast)
  have hlen := hset.len ok.ok.fam.n5
  obtain ⟨dx, vf, vr, vu, s1, I⟩ := bk.sh wz.s
  have en1 := en.up (Same.new (o := .ins C dx (bfs vf vr vu)) bk.out)
  have n2 := ok.ok.fam.n2
  have n5 := ok.ok.fam.n5
  have few := ok.ok.fam.few
  refine s_when (b := false) ((t_or3 (t_neD hr.units (e_v 11) (e_v 10) hd hd hn hn) (fun _ => t_neD hr.units (e_bm L.picked (e_v 3) I L.Tx.cl (hr.mono (by decide)) ⟨r, hlast, rfl⟩) (e_last (e_v 4) (getLast_map hlast)) (sh_dS (n := 0) _) (sh_dS (n := 0) _)) fun _ _ => t_cmp op_ne (e_lenB L.Lo B (e_v 3) I (hr.mono (by decide)) hlast (by omega)) (e_lenT B (e_last (e_v 4) (getLast_map hlast))) rd_neI).is ?_) (Same.refl _) s1 en1 (fun z => nomatch z) fun _ G2 H2 f2 en2 => ?_
  · rw [he, eqv_dS, List.length_map]
    simp
  have I2 := I.up f2.g
  refine s_when (b := false) ((t_neD hr.units (e_bm L.free (e_v 3) I2 L.Tx.cl (hr.mono (by decide)) ⟨r, ok.ok, hlast, rfl⟩) (e_call L.free_ (hr.mono (by decide)) (a_cons (e_v 2) (a_cons (e_last (e_v 4) (getLast_map hlast)) a_nil)) ⟨b.n, b.f, r, by omega, n5, by omega, by omega, rfl, rfl⟩) (sh_dS (n := 0) _) (sh_dS (n := 0) _)).is ?_) (Same.refl _) f2.s en2 (fun z => nomatch z) fun _ G3 H3 f3 en3 => wB_nil ?_
  · rw [eqv_dS]
    simp
  have f23 := (f2.trans f3).hide bk.out
  have fw := wz.ofFr f23
  exact done _ _ fw.g (wz.fw fw) (bk.fr f23) (en.kp fw.g)
end

end G9
namespace G9
open PySem PySem.Spec PyProof.Rows L2 G9S
open L2H HotX
section
variable {X : Cx} {T : Tbs} {Hs : Hp} {a C p : Addr} {ρ : Ro} {e : Expr} {x : Str} {pos pc : Pos} {σ : L2.St} {G H : Hp} {rest : List Stmt} {N : Ends} {b b' : Bsk} {d : D}
theorem sB_asg (i : Nat) (h : EvB X T a C p ρ e b d b') (w : Wz T Hs a G H) (bk : Bk X.K C G H p b) (nw : Newly Hs p) (en : En X.K G σ ρ) (k : ∀ σ' G' H', Kp G G' → Wz T Hs a G' H' → Bk X.K C G' H' p b' → En X.K G' σ' (ρ.set i (some d)) → wB X rest N σ' H') (hN : X.N.Nodup := by assumption) (hi : X.N[i]? = some x := by rfl)
    (hx : Loc X.env.scope x := by first | exact Or.inl rfl | exact Or.inr rfl) (hs : swapsWith e (some (.Name x pc)) pos.line X.env = pure false := by rfl) (hf : X.fn x = true ∨ X.env.scope.names.lookup x = some .local := by first | exact .inl rfl | exact .inr rfl | assumption) :
    wB X (.Assign [.Name x pc] e pos :: rest) N σ H :=
  wB_cons (wS_of (ps_set hN hi hx pw hs hf) (h Hs σ G H w bk nw en _ fun v G1 H1 k1 w1 b1 r1 => k _ G1 H1 k1 w1 b1 ((en.kp k1).set i r1)))
end
section
variable {P : Program} {w : World} {K : PySem.W.Frag} {mg : Str → Option Value} {base : Heap}
variable {C : Addr} {c : Nat → Addr} {g CS ft : Addr} {fdt fdr : FuncData} {cc P0 : Addr} {T : Tbs} {A : Around} {outer : List Env} {s : Shared} {Hx : Hp} {E : XK} {f0 : Addr} {Hs G H : Hp} {a p : Addr} {σ : L2.St} {N : Ends}
theorem head_app {rs : List (List Int)} {z : List Int} (h : rs.head? = some []) : (rs ++ [z]).head? = some [] := by
  cases rs with
  | nil => cases h
  | cons x xs => exact h
theorem at_prev {rs : List (List Int)} {z r : List Int} (h : rs.getLast? = some r) : atI ((rs ++ [z]).map dS) (-2) = some (dS r) := by
  have hl : 0 < rs.length := List.length_pos_iff.mpr fun e => by rw [e] at h; cases h
  rw [List.getLast?_eq_getElem?] at h
  have hlen : ((rs ++ [z]).map dS).length = rs.length + 1 := by rw [List.length_map, List.length_append]; rfl
  unfold atI ixN
  rw [if_neg (by decide), if_pos (by rw [hlen]; omega), hlen]
  show ((rs ++ [z]).map dS)[((-2 : Int) + ((rs.length + 1 : Nat) : Int)).toNat]? = _
  rw [show ((-2 : Int) + ((rs.length + 1 : Nat) : Int)).toNat = rs.length - 1 from by omega, List.getElem?_map, List.getElem?_append_left (by omega), h]
  rfl
theorem e_prev {X : Cx} {H0 : Hp} {ρ : Ro} {e : Expr} {ds : List D} {d : D} {j : Nat} {p1 p2 pos : Pos} (h : Ev X H0 ρ e (.lst ds)) (hl : atI ds (-2) = some d) : Ev X H0 ρ (.Subscript e (.UnaryOp .USub (.Constant (.int 2) j p1) p2) pos) d :=
  e_ix ix_list h (e_un un_neg e_int rd_neg) (rd_ixL hl)
theorem filt_in {n : Int} {r : List Int} {t : Int} (h : SetIn n r) : SetIn n (r.filter fun o => !decide (o = t)) :=
  ⟨h.asc.sublist List.filter_sublist, fun x hx => h.low x (List.mem_filter.mp hx).1⟩
theorem turn9 (L : L9 P w K mg base C c g CS ft fdt fdr cc P0 T) (hr : Room 9 (A.deeper (envOfC "law" (defScope s_law) s.heap.objs.size f0 (.ref cc)))) {b : Bsk} {i : Nat} (hi : i < 10) (ok : B9 i b) {t7 t8 t9 t10 t11 : Option D} (wz : Wz T Hs a G H) (bk : Bk K C G H p b) (nw : Newly Hs p) (en : En K G σ (ro9 a p b t7 t8 t9 t10 t11))
    (done : ∀ b' s7 s8 s9 s10 s11 σ' G' H', b'.n = b.n → b'.f = b.f → B9 (i + 1) b' → Kp G G' → Wz T Hs a G' H' → Bk K C G' H' p b' → En K G' σ' (ro9 a p b' s7 s8 s9 s10 s11) → N.nx σ' H') : wB (cx9 P w K mg base f0 (.ref cc) A outer s Hx E) bodyTurn N σ H := by
  have hN : N9.Nodup := sc_law.nd
  have B := L.B
  obtain ⟨r, hlast⟩ : ∃ r, b.rows.getLast? = some r := by
    cases e : b.rows.getLast? with
    | some r => exact ⟨r, rfl⟩
    | none =>
      have := ok.hd
      rw [List.getLast?_eq_none_iff.mp e] at this
      cases this
  have hset := ok.ok.sets r (List.mem_of_getLast? hlast)
  have hlen := hset.len ok.ok.fam.n5
  have n2 := ok.ok.fam.n2
  have n5 := ok.ok.fam.n5
  have few := ok.ok.fam.few
  have l1 := ok.l1
  have l2 := ok.l2
  have hr2 := hr.mono (show 2 ≤ 9 by decide)
  have hr3 := hr.mono (show 3 ≤ 9 by decide)
  have hr6 := hr.mono (show 6 ≤ 9 by decide)
  have hr4 := hr.mono (show 4 ≤ 9 by decide)
  have Tl9 : Tl (cx9 P w K mg base f0 (.ref cc) A outer s Hx E) T c g CS ft cc P0 fdt fdr := ⟨L.Ft, L.TB, rfl, L.hmT, L.hu⟩
  refine z_tup3 7 8 9 (pa_three (p_roll 1 L.roll hr2 (p_of e_int) (by decide)) (p_roll 1 L.roll hr2 (p_of (e_at (e_v 2) rfl)) ⟨by omega, by omega⟩) (p_of (e_last (e_v 4) (getLast_map hlast)))) wz en fun d1 d2 d3 hP σ1 G1 H1 f1 w1 en1 => ?_
  obtain ⟨⟨k, rfl, hk0, hk6⟩, ⟨t, rfl, ht0, htn⟩, rfl⟩ := hP
  have b1 := bk.fw wz f1
  refine z_asg 10 (p_of (e_if (d := errD (if k < 4 then 4 else 7)) (t_cmp op_lt (e_v 7) e_int rd_b) (fun h => by rw [if_pos (of_decide_eq_true h)]; exact e_tup (a_cons e_str (a_cons e_str a_nil)) (by show 2 ≤ 100000; decide)) fun h => by rw [if_neg (of_decide_eq_false h)]; exact e_tup (a_cons e_str (a_cons e_str a_nil)) (by show 2 ≤ 100000; decide))) w1 en1 fun d hd σ2 G2 H2 f2 w2 en2 => ?_
  subst hd
  have b2 := b1.fw w1 f2
  have kk := f1.g.trans f2.g
  -- what is due
  have hdue : ∀ {b' : Bsk} {G' H' : Hp} {σ' : L2.St} {n : Nat} {d : D}, Kp G G' → Wz T Hs a G' H' → Bk K C G' H' p b' → b'.n = b.n → b'.f = b.f → B9 (i + 1) b' → Sh n d → n ≤ 64 → d.eqv d = true → ∀ {s7 s8 s9 : Option D}, En K G' σ' (ro9 a p b' s7 s8 s9 (some d) (some d)) → wB (cx9 P w K mg base f0 (.ref cc) A outer s Hx E) (bodyTurn.drop 3) N σ' H' := fun {b' G' H' σ' n d} kg w' bk' e1 e2 ok' hs hn he {s7 s8 s9} en' =>
    check9 L hr hi ok' hs hn he w' bk' en' fun G3 H3 k3 w3 bk3 en3 => done b' _ _ _ _ _ _ G3 H3 e1 e2 ok' (kg.trans k3) w3 bk3 en3
  have same9 : B9 (i + 1) b := ⟨ok.ok, by omega, by omega, ok.hd, ok.us⟩
  have eF : ∀ {X : Cx} {H0 : Hp} {ρ : Ro} {e1 e2 : Expr} {px pp : Pos} {r' : List Int}, X.prog = P → True := fun _ => trivial
  refine s_if (t_cmp op_lt (e_v 7) e_int rd_b) same_nil w2.s en2 (fun hb G3 H3 f3 en3 => ?_) fun hb G3 H3 f3 en3 => ?_
  · -- take
    have hk3 : k < 3 := of_decide_eq_true hb
    have fw3 := w2.ofFr f3
    have w3 := w2.fw fw3
    have b3 := b2.fr f3
    rw [if_pos (show k < 4 by omega)] at en3
    by_cases hin : t ∈ freeOf b.n b.f r
    · refine sB_asg 11 ((b_take (dv := .int t) Tl9 L.Tx L.take hr6 (fun z => nomatch z) ok.ok (by omega) hlast (fun _ _ _ _ _ _ _ => e_v 3) fun _ _ _ _ _ _ _ => e_v 8).1 t rfl hin) w3 b3 nw en3 fun σ4 G4 H4 k4 w4 b4 en4 => ?_
      have hadd := addTo_in hset hin
      have ok4 : B9 (i + 1) { b with rows := b.rows ++ [addTo r t], und := [] } := ⟨ok.ok.take (by omega) hlast hin, by show (b.rows ++ [addTo r t]).length ≤ _; rw [List.length_append]; show b.rows.length + 1 ≤ _; omega, Nat.zero_le _, head_app ok.hd, fun o ho => nomatch ho⟩
      refine s_when (b := true) ((t_cmp op_in_seq (e_v 8) (e_call L.free_ hr3 (a_cons (e_v 2) (a_cons (e_v 9) a_nil)) ⟨b.n, b.f, r, by omega, n5, by omega, by omega, rfl, rfl⟩) rd_inT).is (List.contains_iff_mem.mpr hin)) same_nil w4.s en4 (fun _ G5 H5 f5 en5 => ?_) fun z => nomatch z
      have fw5 := w4.ofFr f5
      refine z_par 4 5 (P1 := (· = .lst ((b.rows ++ [addTo r t]).map dS))) (P2 := (· = .lst (([] : List (List Int)).map dS))) (p_of ((l_op op_cat (e_v 4) (l_lst (ds := [dS (addTo r t)]) (a_cons (e_tuple B (l_sortTI (ns := r ++ [t]) B.sorted_ ((e_op op_catA (e_v 9) (e_tup (a_cons (e_v 8) a_nil) (by show 1 ≤ 100000; decide)) (rd_catT (by rw [List.length_map]; show r.length + 1 ≤ 100000; omega))).is (by simp [dS]))).ev) a_nil) (by show 1 ≤ 100000; decide)).ev (rd_cat (by rw [List.length_map]; show b.rows.length + 1 ≤ 100000; omega))).ev.is (by rw [map_app]))) (p_of (l_lst a_nil).ev) (w4.fw fw5) en5 fun d1 d2 e1 e2 σ6 G6 H6 f6 w6 en6 => ?_
      subst e1
      subst e2
      have hlast6 : (b.rows ++ [addTo r t]).getLast? = some (addTo r t) := by simp
      have hlen6 := hadd.len n5
      refine z_asg 10 (p_of ((e_eqD hr.units (e_call L.free_ hr3 (a_cons (e_v 2) (a_cons (e_last (e_v 4) (getLast_map hlast6)) a_nil)) ⟨b.n, b.f, addTo r t, by omega, n5, by omega, by omega, rfl, rfl⟩) (e_tup (ds := ([] : List Int).map D.int) a_nil (by show 0 ≤ 100000; decide)) (sh_dS (n := 0) _) (sh_dS (n := 0) [])).is (by rw [eqv_dS]))) w6 en6 fun d hd σ7 G7 H7 f7 w7 en7 => wB_nil (wB_nil ?_)
      subst hd
      refine hdue (b' := { b with rows := b.rows ++ [addTo r t], und := [] }) (n := 0) (kk.trans (fw3.g.trans (k4.trans (fw5.g.trans (f6.g.trans f7.g))))) w7 (((b4.fr f5).fw (w4.fw fw5) f6).fw w6 f7) rfl rfl ok4 (.bl _) (by decide) (by rw [eqv_bl]; simp) en7
    · refine sB_asg 11 ((b_take (dv := .int t) Tl9 L.Tx L.take hr6 (fun z => nomatch z) ok.ok (by omega) hlast (fun _ _ _ _ _ _ _ => e_v 3) fun _ _ _ _ _ _ _ => e_v 8).2 (fun t' e => by cases e; exact hin)) w3 b3 nw en3 fun σ4 G4 H4 k4 w4 b4 en4 => ?_
      refine s_when (b := false) ((t_cmp op_in_seq (e_v 8) (e_call L.free_ hr3 (a_cons (e_v 2) (a_cons (e_v 9) a_nil)) ⟨b.n, b.f, r, by omega, n5, by omega, by omega, rfl, rfl⟩) rd_inT).is (by simpa using hin)) same_nil w4.s en4 (fun z => nomatch z) fun _ G5 H5 f5 en5 => wB_nil ?_
      have fw5 := w4.ofFr f5
      exact hdue (kk.trans (fw3.g.trans (k4.trans fw5.g))) (w4.fw fw5) (b4.fr f5) rfl rfl same9 (err_sh 4 (by decide)) (by decide) (err_eqv 4 (by decide)) en5
  · have hk3 : ¬ k < 3 := of_decide_eq_false hb
    have fw3 := w2.ofFr f3
    have w3 := w2.fw fw3
    have b3 := b2.fr f3
    refine s_if (t_cmp op_eq (e_v 7) e_int rd_eqI) same_nil w3.s en3 (fun hb G4 H4 f4 en4 => ?_) fun hb G4 H4 f4 en4 => ?_
    · -- leave
      have hk : k = 3 := of_decide_eq_true hb
      have fw4 := w3.ofFr f4
      have w4 := w3.fw fw4
      have b4 := b3.fr f4
      rw [if_pos (show k < 4 by omega)] at en4
      by_cases hin : t ∈ r
      · refine sB_asg 11 ((b_leave (dv := .int t) Tl9 L.Tx L.leave hr6 (fun z => nomatch z) ok.ok (by omega) hlast (fun _ _ _ _ _ _ _ => e_v 3) fun _ _ _ _ _ _ _ => e_v 8).1 t rfl hin) w4 b4 nw en4 fun σ5 G5 H5 k5 w5 b5 en5 => ?_
        have hfi := filt_in (t := t) hset
        have ok5 : B9 (i + 1) { b with rows := b.rows ++ [r.filter fun o => !decide (o = t)], und := [] } := ⟨⟨ok.ok.fam, fun o ho => by
            rcases List.mem_append.mp ho with ho | ho
            · exact ok.ok.sets o ho
            · rw [List.mem_singleton.mp ho]
              exact hfi, by show (b.rows ++ [_]).length ≤ _; rw [List.length_append]; show b.rows.length + 1 ≤ _; omega, Nat.zero_le _⟩, by show (b.rows ++ [_]).length ≤ _; rw [List.length_append]; show b.rows.length + 1 ≤ _; omega, Nat.zero_le _, head_app ok.hd, fun o ho => nomatch ho⟩
        refine s_when (b := true) ((t_cmp op_in_seq (e_v 8) (e_v 9) rd_inT).is (List.contains_iff_mem.mpr hin)) same_nil w5.s en5 (fun _ G6 H6 f6 en6 => ?_) fun z => nomatch z
        have fw6 := w5.ofFr f6
        refine z_par 4 5 (P1 := (· = .lst ((b.rows ++ [r.filter fun o => !decide (o = t)]).map dS))) (P2 := (· = .lst (([] : List (List Int)).map dS))) (p_of ((l_op op_cat (e_v 4) (l_lst (ds := [dS (r.filter fun o => !decide (o = t))]) (a_cons (e_tuple B (l_lc 12 (c_fil D.int r (fun o => !decide (o = t)) 12 (i_tup (e_v 9)) (by omega) fun o ho _ _ _ _ _ => t_cmp op_ne (e_v 12) (e_v 8) rd_neI)).ev) a_nil) (by show 1 ≤ 100000; decide)).ev (rd_cat (by rw [List.length_map]; show b.rows.length + 1 ≤ 100000; omega))).ev.is (by rw [map_app]))) (p_of (l_lst a_nil).ev) (w5.fw fw6) en6 fun d1 d2 e1 e2 σ7 G7 H7 f7 w7 en7 => ?_
        subst e1
        subst e2
        have hlast7 : (b.rows ++ [r.filter fun o => !decide (o = t)]).getLast? = some (r.filter fun o => !decide (o = t)) := by simp
        refine z_asg 10 (p_of (e_last (e_v 4) (getLast_map hlast7))) w7 en7 fun d hd σ8 G8 H8 f8 w8 en8 => wB_nil (wB_nil (wB_nil ?_))
        subst hd
        exact hdue (b' := { b with rows := b.rows ++ [r.filter fun o => !decide (o = t)], und := [] }) (n := 1) (kk.trans (fw3.g.trans (fw4.g.trans (k5.trans (fw6.g.trans (f7.g.trans f8.g)))))) w8 (((b5.fr f6).fw (w5.fw fw6) f7).fw w7 f8) rfl rfl ok5 (sh_dS (n := 0) _) (by decide) (by rw [eqv_dS]; simp) en8
      · refine sB_asg 11 ((b_leave (dv := .int t) Tl9 L.Tx L.leave hr6 (fun z => nomatch z) ok.ok (by omega) hlast (fun _ _ _ _ _ _ _ => e_v 3) fun _ _ _ _ _ _ _ => e_v 8).2 (fun t' e => by cases e; exact hin)) w4 b4 nw en4 fun σ5 G5 H5 k5 w5 b5 en5 => ?_
        refine s_when (b := false) ((t_cmp op_in_seq (e_v 8) (e_v 9) rd_inT).is (by simpa using hin)) same_nil w5.s en5 (fun z => nomatch z) fun _ G6 H6 f6 en6 => wB_nil (wB_nil ?_)
        have fw6 := w5.ofFr f6
        exact hdue (kk.trans (fw3.g.trans (fw4.g.trans (k5.trans fw6.g)))) (w5.fw fw6) (b5.fr f6) rfl rfl same9 (err_sh 4 (by decide)) (by decide) (err_eqv 4 (by decide)) en6
    · have hk4 : ¬ k = 3 := of_decide_eq_false hb
      have fw4 := w3.ofFr f4
      have w4 := w3.fw fw4
      have b4 := b3.fr f4
      rw [if_neg (show ¬ k < 4 by omega)] at en4
      refine s_if (t_cmp op_eq (e_v 7) e_int rd_eqI) same_nil w4.s en4 (fun hb G5 H5 f5 en5 => ?_) fun hb G5 H5 f5 en5 => ?_
      · -- undo
        have fw5 := w4.ofFr f5
        have w5 := w4.fw fw5
        have b5 := b4.fr f5
        obtain ⟨rs, hrs⟩ := List.getLast?_eq_some_iff.mp hlast
        have hrl : b.rows.length = rs.length + 1 := by rw [hrs, List.length_append]; rfl
        cases hr1 : rs.getLast? with
        | some r' =>
          refine sB_asg 11 ((b_undo (rs := rs) (z := r) Tl9 L.Tx L.undo hr4 ok.ok (by omega) hrs (fun _ _ _ _ _ _ _ => e_v 3)).1 r' hr1) w5 b5 nw en5 fun σ6 G6 H6 k6 w6 b6 en6 => ?_
          have hrne : 1 ≤ rs.length := List.length_pos_iff.mpr fun z => by rw [z] at hr1; cases hr1
          have ok6 : B9 (i + 1) { b with rows := rs, und := b.und ++ [r] } := ⟨⟨ok.ok.fam, fun o ho => ok.ok.sets o (by rw [hrs]; exact List.mem_append_left _ ho), by show rs.length ≤ 100; omega, by show (b.und ++ [r]).length ≤ 100; rw [List.length_append]; show b.und.length + 1 ≤ 100; omega⟩, by show rs.length ≤ _; omega, by show (b.und ++ [r]).length ≤ _; rw [List.length_append]; show b.und.length + 1 ≤ _; omega, by
              have := ok.hd
              rw [hrs] at this
              cases rs with
              | nil => simp at hrne
              | cons x xs => exact this, fun o ho => by
              rcases List.mem_append.mp ho with ho | ho
              · exact ok.us o ho
              · rw [List.mem_singleton.mp ho]
                exact hset⟩
          refine s_when (b := true) ((t_cmp op_gt (e_lenL B (e_v 4)) e_int rd_b).is (by rw [List.length_map]; exact decide_eq_true (by omega))) same_nil w6.s en6 (fun _ G7 H7 f7 en7 => ?_) fun z => nomatch z
          have fw7 := w6.ofFr f7
          have hmp : b.rows.map dS = rs.map dS ++ [dS r] := by rw [hrs, map_app]
          refine z_par3 4 5 10 (P := fun d1 d2 d3 => d1 = .lst (rs.map dS) ∧ d2 = .lst ((b.und ++ [r]).map dS) ∧ d3 = dS r') (pa_three (p_of ((l_init (e_v 4)).ev.is (by rw [hmp, List.dropLast_concat]))) (p_of ((l_op op_cat (e_v 5) (l_lst (ds := [dS r]) (a_cons (e_last (e_v 4) (getLast_map hlast)) a_nil) (by show 1 ≤ 100000; decide)).ev (rd_cat (by rw [List.length_map]; show b.und.length + 1 ≤ 100000; omega))).ev.is (by rw [map_app]))) (p_of (e_prev (e_v 4) (by rw [hrs]; exact at_prev hr1)))) (w6.fw fw7) en7 fun d1 d2 d3 hP σ8 G8 H8 f8 w8 en8 => wB_nil (wB_nil (wB_nil (wB_nil ?_)))
          obtain ⟨rfl, rfl, rfl⟩ := hP
          exact hdue (b' := { b with rows := rs, und := b.und ++ [r] }) (n := 1) (kk.trans (fw3.g.trans (fw4.g.trans (fw5.g.trans (k6.trans (fw7.g.trans f8.g)))))) w8 ((b6.fr f7).fw (w6.fw fw7) f8) rfl rfl ok6 (sh_dS (n := 0) _) (by decide) (by rw [eqv_dS]; simp) en8
        | none =>
          have hrn := List.getLast?_eq_none_iff.mp hr1
          refine sB_asg 11 ((b_undo (rs := rs) (z := r) Tl9 L.Tx L.undo hr4 ok.ok (by omega) hrs (fun _ _ _ _ _ _ _ => e_v 3)).2 hrn) w5 b5 nw en5 fun σ6 G6 H6 k6 w6 b6 en6 => ?_
          refine s_when (b := false) ((t_cmp op_gt (e_lenL B (e_v 4)) e_int rd_b).is (by rw [List.length_map, hrl, hrn]; rfl)) same_nil w6.s en6 (fun z => nomatch z) fun _ G7 H7 f7 en7 => wB_nil (wB_nil (wB_nil ?_))
          have fw7 := w6.ofFr f7
          exact hdue (kk.trans (fw3.g.trans (fw4.g.trans (fw5.g.trans (k6.trans fw7.g))))) (w6.fw fw7) (b6.fr f7) rfl rfl same9 (err_sh 7 (by decide)) (by decide) (err_eqv 7 (by decide)) en7
      · -- redo
        have fw5 := w4.ofFr f5
        have w5 := w4.fw fw5
        have b5 := b4.fr f5
        have eqE : (D.lst (b.und.map dS)).eqv (D.lst (([] : List (List Int)).map dS)) = decide (b.und = []) := eqv_lF _ _
        rcases List.eq_nil_or_concat b.und with hun | ⟨us, z, hun⟩
        · refine sB_asg 11 ((b_redo Tl9 L.Tx L.redo hr4 ok.ok (by omega) (fun _ _ _ _ _ _ _ => e_v 3)).2 hun) w5 b5 nw en5 fun σ6 G6 H6 k6 w6 b6 en6 => ?_
          refine s_when (b := false) ((t_neD hr.units (e_v 5) (l_lst (ds := ([] : List (List Int)).map dS) a_nil (by show 0 ≤ 100000; decide)).ev (sh_lF (n := 0) _) (sh_lF (n := 0) [])).is (by rw [eqE, decide_eq_true hun]; rfl)) same_nil w6.s en6 (fun z => nomatch z) fun _ G7 H7 f7 en7 => wB_nil (wB_nil (wB_nil ?_))
          have fw7 := w6.ofFr f7
          exact hdue (kk.trans (fw3.g.trans (fw4.g.trans (fw5.g.trans (k6.trans fw7.g))))) (w6.fw fw7) (b6.fr f7) rfl rfl same9 (err_sh 7 (by decide)) (by decide) (err_eqv 7 (by decide)) en7
        · rw [List.concat_eq_append] at hun
          refine sB_asg 11 ((b_redo Tl9 L.Tx L.redo hr4 ok.ok (by omega) (fun _ _ _ _ _ _ _ => e_v 3)).1 us z hun) w5 b5 nw en5 fun σ6 G6 H6 k6 w6 b6 en6 => ?_
          have hul : b.und.length = us.length + 1 := by rw [hun, List.length_append]; rfl
          have hz : SetIn b.n z := ok.us z (by rw [hun]; simp)
          have ok6 : B9 (i + 1) { b with rows := b.rows ++ [z], und := us } := ⟨⟨ok.ok.fam, fun o ho => by
              rcases List.mem_append.mp ho with ho | ho
              · exact ok.ok.sets o ho
              · rw [List.mem_singleton.mp ho]
                exact hz, by show (b.rows ++ [z]).length ≤ 100; rw [List.length_append]; show b.rows.length + 1 ≤ 100; omega, by show us.length ≤ 100; omega⟩, by show (b.rows ++ [z]).length ≤ _; rw [List.length_append]; show b.rows.length + 1 ≤ _; omega, by show us.length ≤ _; omega, head_app ok.hd, fun o ho => ok.us o (by rw [hun]; exact List.mem_append_left _ ho)⟩
          refine s_when (b := true) ((t_neD hr.units (e_v 5) (l_lst (ds := ([] : List (List Int)).map dS) a_nil (by show 0 ≤ 100000; decide)).ev (sh_lF (n := 0) _) (sh_lF (n := 0) [])).is (by rw [eqE, decide_eq_false (by rw [hun]; simp)]; rfl)) same_nil w6.s en6 (fun _ G7 H7 f7 en7 => ?_) fun z => nomatch z
          have fw7 := w6.ofFr f7
          have hul2 : b.und.getLast? = some z := by rw [hun]; simp
          refine z_par3 4 5 10 (P := fun d1 d2 d3 => d1 = .lst ((b.rows ++ [z]).map dS) ∧ d2 = .lst (us.map dS) ∧ d3 = dS z) (pa_three (p_of ((l_op op_cat (e_v 4) (l_lst (ds := [dS z]) (a_cons (e_last (e_v 5) (getLast_map hul2)) a_nil) (by show 1 ≤ 100000; decide)).ev (rd_cat (by rw [List.length_map]; show b.rows.length + 1 ≤ 100000; omega))).ev.is (by rw [map_app]))) (p_of ((l_init (e_v 5)).ev.is (by rw [hun, map_app, List.dropLast_concat]))) (p_of (e_last (e_v 5) (getLast_map hul2)))) (w6.fw fw7) en7 fun d1 d2 d3 hP σ8 G8 H8 f8 w8 en8 => wB_nil (wB_nil (wB_nil (wB_nil ?_)))
          obtain ⟨rfl, rfl, rfl⟩ := hP
          exact hdue (b' := { b with rows := b.rows ++ [z], und := us }) (n := 1) (kk.trans (fw3.g.trans (fw4.g.trans (fw5.g.trans (k6.trans (fw7.g.trans f8.g)))))) w8 ((b6.fr f7).fw (w6.fw fw7) f8) rfl rfl ok6 (sh_dS (n := 0) _) (by decide) (by rw [eqv_dS]; simp) en8
end

end G9
namespace G9
open PySem PySem.Spec PyProof.Rows L2 G9S
open L2H HotX
theorem nd_ix9 {as : List Addr} (h : as.Nodup) {i j : Nat} {x : Addr} (hi : as[i]? = some x) (hj : as[j]? = some x) : i = j := by
  obtain ⟨h1, e1⟩ := List.getElem?_eq_some_iff.mp hi
  obtain ⟨h2, e2⟩ := List.getElem?_eq_some_iff.mp hj
  exact (List.getElem_inj h).mp (e1.trans e2.symm)
theorem fam_inj {n m : Int} {f g : List (List Int)} (e : dFam n f = dFam m g) : n = m ∧ f = g := by
  have h1 := eqv_fam n m f g
  rw [e, eqv_fam] at h1
  simp at h1
  exact h1
section
variable {P : Program} {w : World} {K : PySem.W.Frag} {mg : Str → Option Value} {base : Heap}
variable {C : Addr} {c : Nat → Addr} {g CS ft : Addr} {fdt fdr : FuncData} {cc P0 : Addr} {T : Tbs} {A : Around} {outer : List Env} {s : Shared} {Hx : Hp} {E : XK} {f0 : Addr} {Hs G H : Hp} {a p : Addr} {σ : L2.St} {N : Ends}
theorem round9 (L : L9 P w K mg base C c g CS ft fdt fdr cc P0 T) (hr : Room 9 (A.deeper (envOfC "law" (defScope s_law) s.heap.objs.size f0 (.ref cc)))) (wz : Wz T Hs a G H) (hlen : σ.length = 13) (hσ : σ[1]? = some (some (.ref a)))
    (done : ∀ G' H' σ', Wz T Hs a G' H' → σ'.length = 13 → N.nx σ' H') : wB (cx9 P w K mg base f0 (.ref cc) A outer s Hx E) bodyRound N σ H := by
  have hN : N9.Nodup := sc_law.nd
  have B := L.B
  have hr2 := hr.mono (show 2 ≤ 9 by decide)
  have hr3 := hr.mono (show 3 ≤ 9 by decide)
  have en0 : En K G σ [none, some (.ref a), none, none, none, none, none, none, none, none, none, none, none] := ⟨hlen, fun i d e => by
    match i, e with
    | 0, e => cases e
    | 1, e => cases e; exact ⟨_, hσ, .ref a⟩
    | i + 2, e =>
      have : ([none, none, none, none, none, none, none, none, none, none, none] : Ro)[i]? = some (some d) := e
      have h2 := List.mem_of_getElem? this
      simp at h2⟩
  refine z_asg 2 (p_fam 1 (Pn := fun n => 2 ≤ n ∧ n ≤ 5) L.fam hr3 (p_op op_add (p_of e_int) (p_roll 1 L.roll hr2 (p_of e_int) (by decide)) fun da db h1 h2 => by
    obtain ⟨r, rfl, h3, h4⟩ := h2
    subst h1
    exact ⟨_, ⟨2 + r, rfl, by omega, by omega⟩, rd_i⟩) fun n h => h) wz en0 fun d hd σ1 G1 H1 f1 w1 en1 => ?_
  obtain ⟨n, f, rfl, _, fok⟩ := hd
  -- the basket
  refine wB_cons (wS_of (ps_asg (pe_tup (pa_cons pw (pa_cons pw (pa_cons pw pa_nil)))) (pg_tup rfl (pgs_cons (pg_name (i := 3) hN rfl (Or.inr rfl)) (pgs_cons (pg_name (i := 4) hN rfl (Or.inl rfl)) (pgs_cons (pg_name (i := 5) hN rfl (Or.inl rfl)) pgs_nil))) rfl rfl) rfl rfl rfl) ?_)
  refine w_makeX (E := fun _ _ _ => False) (d := dFam n f) L.M L.Tx (hr.mono (by decide)) takes0N en1 same_nil w1.s (e_v 2) (.inl ⟨3, by decide, fok.sm⟩) (.inl ⟨_, _, rfl, fok⟩) (fun n' f' e1 _ p G2 H2 f2 n2 b2 => ?_) (fun z => by rw [fok.is] at z; cases z)
  obtain ⟨q1, q2⟩ := fam_inj e1
  rw [← q1, ← q2] at b2
  have fw2 := w1.ofFr f2
  have w2 := w1.fw fw2
  have en2 := en1.kp fw2.g
  refine useL en2 same_nil w2.s (l_lst (ds := ([[]] : List (List Int)).map dS) (a_cons (e_tup (ds := ([] : List Int).map D.int) a_nil (by show 0 ≤ 100000; decide)) a_nil) (by show 1 ≤ 100000; decide)) fun l3 vs3 G3 H3 f3 n3 g3 h3 r3 => ?_
  have f3' := f3.add n3 g3 h3
  have fw3 := w2.ofFr f3'
  have w3 := w2.fw fw3
  refine useL (en2.kp fw3.g) same_nil w3.s (l_lst (ds := ([] : List (List Int)).map dS) a_nil (by show 0 ≤ 100000; decide)) fun l4 vs4 G4 H4 f4 n4 g4 h4 r4 => ?_
  have f4' := f4.add n4 g4 h4
  have fw4 := w3.ofFr f4'
  have w4 := w3.fw fw4
  refine ⟨by show 3 ≤ sizeLine; decide, fun q hq => ⟨q, _, rfl, .inl (.inl upd_same), rfl, _, _, rfl, _, _, rfl, _, _, rfl, rfl, ?_⟩⟩
  have f5 := Fr.newH (o := .tup [.ref p, .ref l3, .ref l4]) w4.s hq
  have fw5 := w4.ofFr f5
  have w5 := w4.fw fw5
  have b5 := ((b2.fr f3').fr f4').fr f5
  have rp3 : Rp K (upd G4 l4 (.lst vs4)) (.ref l3) (.lst (([[]] : List (List Int)).map dS)) := (Rp.lst (K := K) (H := upd G3 l3 (.lst vs3)) upd_same (r3.up (Same.new g3))).up f4'.g
  have rp4 : Rp K (upd G4 l4 (.lst vs4)) (.ref l4) (.lst (([] : List (List Int)).map dS)) := Rp.lst (K := K) upd_same (r4.up (Same.new g4))
  have en5 : En K (upd G4 l4 (.lst vs4)) _ (ro9 a p ⟨n, f, [[]], []⟩ none none none none none) := (((en2.kp (fw3.g.trans (fw4.g.trans fw5.g))).set 3 (.ref p)).set 4 rp3).set 5 rp4
  have nw : Newly Hs p := w1.newly n2
  have ok5 : B9 0 ⟨n, f, [[]], []⟩ := ⟨⟨fok, fun o ho => by
      rw [List.mem_singleton.mp ho]
      exact ⟨List.Pairwise.nil, fun x hx => nomatch hx⟩, by show 1 ≤ 100; decide, by show 0 ≤ 100; decide⟩, by show 1 ≤ 1 + 0; decide, by show 0 ≤ 0; decide, rfl, fun o ho => nomatch ho⟩
  show wB _ _ _ _ _
  refine z_for 6 (fun t : Nat => D.int (t : Int)) (List.range 10) (fun i ρ' G' H' => ∃ b s7 s8 s9 s10 s11 x, ρ' = (ro9 a p b s7 s8 s9 s10 s11).set 6 x ∧ b.n = n ∧ b.f = f ∧ B9 i b ∧ Bk K C G' H' p b) (j_range1 B.range_ e_int (by decide)) w5 en5 (fun G6 H6 f6 => ⟨_, none, none, none, none, none, none, rfl, rfl, rfl, ok5, b5.fw w5 f6⟩) (fun i x ρ' σ' G' H' G6 H6 hx hJ f6 w6 en6 => ?_) fun ρ' σ' G' H' hJ w6 en6 => ?_
  · obtain ⟨b, s7, s8, s9, s10, s11, y, rfl, hbn, hbf, okb, bk6⟩ := hJ
    have hi10 : i < 10 := by
      have := (List.getElem?_eq_some_iff.mp hx).1
      rwa [List.length_range] at this
    have en6' : En K G6 σ' (ro9 a p b s7 s8 s9 s10 s11) := en6.forget rfl fun j d e => by
      by_cases hj : j = 6
      · subst hj
        cases e
      · show (((ro9 a p b s7 s8 s9 s10 s11).set 6 y).set 6 _)[j]? = _
        rw [List.getElem?_set_ne (fun z => hj z.symm), List.getElem?_set_ne (fun z => hj z.symm)]
        exact e
    exact turn9 L hr hi10 okb w6 (bk6.fw' (b5.ne w5.da) f6) nw en6' fun b' t7 t8 t9 t10 t11 σ7 G7 H7 e1 e2 ok7 k7 w7 b7 en7 => ⟨_, G7, f6.g.trans k7, w7, en7, b', t7, t8, t9, t10, t11, none, rfl, e1.trans hbn, e2.trans hbf, ok7, b7⟩
  · obtain ⟨b, s7, s8, s9, s10, s11, y, rfl, hbn, hbf, okb, bk6⟩ := hJ
    have l1 := okb.l1
    rw [List.length_range] at l1
    show wB _ _ _ _ _
    refine s_ifW (fun _ => False) (fun H' => ∃ G', Wz T Hs a G' H') ?_ (fun _ z => z.elim) fun H7 ⟨G7, w7⟩ => wB_nil (wB_nil (done G7 H7 _ w7 (en6.len.trans rfl)))
    obtain ⟨fE, fdE, psE, CXE, FE, hmE, hkE, hbE, hxE⟩ := L.end_.ex
    refine wT_of (pt_not (pt_val (pe_call FE hr rfl hmE hkE hbE .nil (hxE _ rfl rfl) paw (by decide)))) ?_
    refine useA en6 same_nil w6.s (a_cons (e_v 3) (a_cons (e_v 2) (a_cons (e_v 4) a_nil))) fun vs G7 H7 f7 r7 => ?_
    have fw7 := w6.ofFr f7
    have w7 := w6.fw fw7
    cases r7 with
    | cons ra r7 =>
      cases r7 with
      | cons rb r7 =>
        cases r7 with
        | cons rc r7 =>
          cases r7
          obtain rfl := ra.ref_of
          exact ⟨p, a, Hs, G7, b, _, _, rfl, w7, bk6.fr f7, nw, rb, rc, okb.ok, by omega, okb.hd, fun G8 H8 k8 w8 b8 => ⟨true, rfl, (fun z => nomatch z), fun _ => ⟨G8, w8⟩⟩⟩
/-! ### the law -/
def spLaw9 (K : PySem.W.Frag) (T : Tbs) : Sp := fun vs H Q _ => ∃ (sc : Addr) (ns : List Int), vs = [.ref sc] ∧ SqL K H sc (ns.map V.int) ∧ ns.length ≤ 63 ∧ (∀ x ∈ T, H x.1 = some (.tbl #[])) ∧ ∀ H', Q (.bl true) H'
theorem ok_law9 {oc kV doc pm ct : Value} {od an : Option Addr} {osl : Array (Option Value)} (lk : K.lookup f0 = some ⟨oc, od, .func (PySem.W.fnOf "law" "law" (defArgs s_law) (defBody s_law) (defScope s_law) .none kV doc pm an (.ref cc) ct), osl⟩) (hcd : PySem.W.codeIn K (.ref cc) "law" = true)
    (L : L9 P w K mg base C c g CS ft fdt fdr cc P0 T) : FnOk P w K mg base CX0 10 f0 (PySem.W.fnOf "law" "law" (defArgs s_law) (defBody s_law) (defScope s_law) .none kV doc pm an (.ref cc) ct) ["script"] (spLaw9 K T) := by
  refine okC lk hcd sc_law (fun vs H Q E h => by obtain ⟨sc, ns, rfl, _⟩ := h; rfl) fun A outer s H E vs Q hr h => ?_
  obtain ⟨sc, ns, rfl, hs, hl, hP, q⟩ := h
  have hN : N9.Nodup := sc_law.nd
  have hr2 := hr.mono (show 2 ≤ 9 by decide)
  have tb0 : LamX.Tabs T H := fun x hx => LamX.TabS.nil (hP x hx)
  obtain ⟨fr, fdr, psr, CXr, Fr1, hmr, hkr, hbr, hxr⟩ := L.rounds.ex
  refine wB_cons (wS_of (ps_for PassesOwn.never rfl (pi_list (pe_call Fr1 hr2 rfl hmr hkr hbr .nil (hxr _ rfl rfl) (pa_cons (pv 0) (pa_cons pe_int pa_nil)))) (pg_name (i := 1) hN rfl (Or.inl rfl)) pbw) ?_)
  refine ⟨_, rfl, sc, ns, 4, rfl, hs, hl, by decide, by decide, fun lr as H1 s1 hlr hlr1 nd dies => ⟨lr, rfl, ⟨_, SqL.of hlr1⟩, ?_⟩⟩
  refine for_list (K := K) (a := lr) (xs := as.map V.ref) (fun i σ' H' => σ'.length = 13 ∧ H' lr = some (.lst (as.map V.ref)) ∧ LamX.Tabs T H' ∧ ∀ j x, i ≤ j → as[j]? = some x → Die H' x)
    ⟨rfl, hlr1, tb0.ext s1, fun j x _ e => (dies x (List.mem_of_getElem? e)).2.2⟩ (fun i σ' H' _ ⟨_, e, _⟩ => SqL.of e) (fun i y σ' H' hy ⟨e1, e2, e3, e4⟩ => ?_) fun σ' H' _ => ?_
  · obtain ⟨a, ha, rfl⟩ : ∃ a, as[i]? = some a ∧ y = V.ref a := by
      rw [List.getElem?_map] at hy
      cases e : as[i]? with
      | none => rw [e] at hy; cases hy
      | some a =>
        rw [e] at hy
        exact ⟨a, rfl, (Option.some.inj hy).symm⟩
    show wB _ _ _ _ _
    refine round9 (G := Nil) (Hs := H') (a := a) L hr ⟨same_nil, rfl, e4 i a (Nat.le_refl i) ha, e3, fun c o _ _ h => h⟩ (by rw [List.length_set]; exact e1) (List.getElem?_set_self (by rw [e1]; decide)) fun G2 H2 σ2 w2 l2 => ⟨l2, w2.fr lr _ (Ne.symm (dies a (List.mem_of_getElem? ha)).2.1) (fun _ z => nomatch z) e2, w2.tb, fun j x hj hx => ?_⟩
    have hne : x ≠ a := fun z => by
      have := nd_ix9 nd hx (z ▸ ha)
      omega
    obtain ⟨u, v, hd⟩ := e4 j x (by omega) hx
    exact ⟨u, v, w2.fr x _ hne (fun _ z => nomatch z) hd⟩
  · show wB _ _ _ _ _
    exact wB_cons (wS_of (ps_ret pe_bl) (q _))
end

end G9
namespace G9
open PySem PySem.Spec PyProof.Rows L2 G9S
open L2H HotX
theorem all_mk {l : PySem.W.OpenLaw} {w : World} {K : PySem.W.Frag} {h : Heap} {mg : Str → Option Value} {fa : Addr} {f_is_whole_ : Addr} {od_is_whole an_is_whole : Option Addr} {sl_is_whole : Array (Option Value)} {oc_is_whole kV_is_whole dc_is_whole pm_is_whole ct_is_whole cd_is_whole : Value}
    {f_within_ : Addr} {od_within an_within : Option Addr} {sl_within : Array (Option Value)} {oc_within kV_within dc_within pm_within ct_within cd_within : Value}
    {f_may_be_ : Addr} {od_may_be an_may_be : Option Addr} {sl_may_be : Array (Option Value)} {oc_may_be kV_may_be dc_may_be pm_may_be ct_may_be cd_may_be : Value}
    {f_greatest_in_ : Addr} {od_greatest_in an_greatest_in : Option Addr} {sl_greatest_in : Array (Option Value)} {oc_greatest_in kV_greatest_in dc_greatest_in pm_greatest_in ct_greatest_in cd_greatest_in : Value}
    {f_is_set_ : Addr} {od_is_set an_is_set : Option Addr} {sl_is_set : Array (Option Value)} {oc_is_set kV_is_set dc_is_set pm_is_set ct_is_set cd_is_set : Value}
    {f_is_family_ : Addr} {od_is_family an_is_family : Option Addr} {sl_is_family : Array (Option Value)} {oc_is_family kV_is_family dc_is_family pm_is_family ct_is_family cd_is_family : Value}
    {f_need_family_ : Addr} {od_need_family an_need_family : Option Addr} {sl_need_family : Array (Option Value)} {oc_need_family kV_need_family dc_need_family pm_need_family ct_need_family cd_need_family : Value}
    {f_law_drawn_ : Addr} {od_law_drawn an_law_drawn : Option Addr} {sl_law_drawn : Array (Option Value)} {oc_law_drawn kV_law_drawn dc_law_drawn pm_law_drawn ct_law_drawn cd_law_drawn : Value}
    {f_law_roll_ : Addr} {od_law_roll an_law_roll : Option Addr} {sl_law_roll : Array (Option Value)} {oc_law_roll kV_law_roll dc_law_roll pm_law_roll ct_law_roll cd_law_roll : Value}
    {f_law_cell_ : Addr} {od_law_cell an_law_cell : Option Addr} {sl_law_cell : Array (Option Value)} {oc_law_cell kV_law_cell dc_law_cell pm_law_cell ct_law_cell cd_law_cell : Value}
    {f_law_rounds_ : Addr} {od_law_rounds an_law_rounds : Option Addr} {sl_law_rounds : Array (Option Value)} {oc_law_rounds kV_law_rounds dc_law_rounds pm_law_rounds ct_law_rounds cd_law_rounds : Value}
    {f_law_inside_ : Addr} {od_law_inside an_law_inside : Option Addr} {sl_law_inside : Array (Option Value)} {oc_law_inside kV_law_inside dc_law_inside pm_law_inside ct_law_inside cd_law_inside : Value}
    {f_law_top_ : Addr} {od_law_top an_law_top : Option Addr} {sl_law_top : Array (Option Value)} {oc_law_top kV_law_top dc_law_top pm_law_top ct_law_top cd_law_top : Value}
    {f_law_family_ : Addr} {od_law_family an_law_family : Option Addr} {sl_law_family : Array (Option Value)} {oc_law_family kV_law_family dc_law_family pm_law_family ct_law_family cd_law_family : Value}
    {f_law_may_ : Addr} {od_law_may an_law_may : Option Addr} {sl_law_may : Array (Option Value)} {oc_law_may kV_law_may dc_law_may pm_law_may ct_law_may cd_law_may : Value}
    {f_law_term_ : Addr} {od_law_term an_law_term : Option Addr} {sl_law_term : Array (Option Value)} {oc_law_term kV_law_term dc_law_term pm_law_term ct_law_term cd_law_term : Value}
    {f_law_told_ : Addr} {od_law_told an_law_told : Option Addr} {sl_law_told : Array (Option Value)} {oc_law_told kV_law_told dc_law_told pm_law_told ct_law_told cd_law_told : Value}
    {f_law_free_ : Addr} {od_law_free an_law_free : Option Addr} {sl_law_free : Array (Option Value)} {oc_law_free kV_law_free dc_law_free pm_law_free ct_law_free cd_law_free : Value}
    {f_law_end_ : Addr} {od_law_end an_law_end : Option Addr} {sl_law_end : Array (Option Value)} {oc_law_end kV_law_end dc_law_end pm_law_end ct_law_end : Value}
    {c_law_end_ P_law_end : Addr}
    {C : Addr}
    {f_m_picked_ : Addr} {od_m_picked an_m_picked : Option Addr} {sl_m_picked : Array (Option Value)} {oc_m_picked kV_m_picked dc_m_picked pm_m_picked ct_m_picked cd_m_picked : Value}
    {f_m_free_ : Addr} {od_m_free an_m_free : Option Addr} {sl_m_free : Array (Option Value)} {oc_m_free kV_m_free dc_m_free pm_m_free ct_m_free cd_m_free : Value}
    {f_m_take_ : Addr} {od_m_take an_m_take : Option Addr} {sl_m_take : Array (Option Value)} {oc_m_take kV_m_take dc_m_take pm_m_take ct_m_take cd_m_take : Value}
    {f_m_leave_ : Addr} {od_m_leave an_m_leave : Option Addr} {sl_m_leave : Array (Option Value)} {oc_m_leave kV_m_leave dc_m_leave pm_m_leave ct_m_leave cd_m_leave : Value}
    {f_m_undo_ : Addr} {od_m_undo an_m_undo : Option Addr} {sl_m_undo : Array (Option Value)} {oc_m_undo kV_m_undo dc_m_undo pm_m_undo ct_m_undo cd_m_undo : Value}
    {f_m_redo_ : Addr} {od_m_redo an_m_redo : Option Addr} {sl_m_redo : Array (Option Value)} {oc_m_redo kV_m_redo dc_m_redo pm_m_redo ct_m_redo cd_m_redo : Value}
    {f_m_init_ : Addr} {od_m_init an_m_init : Option Addr} {sl_m_init : Array (Option Value)} {oc_m_init kV_m_init dc_m_init pm_m_init ct_m_init cd_m_init : Value}
    {f_m_eq_ : Addr} {od_m_eq an_m_eq : Option Addr} {sl_m_eq : Array (Option Value)} {oc_m_eq kV_m_eq dc_m_eq pm_m_eq ct_m_eq cd_m_eq : Value}
    {f_m_len_ : Addr} {od_m_len an_m_len : Option Addr} {sl_m_len : Array (Option Value)} {oc_m_len kV_m_len dc_m_len pm_m_len ct_m_len cd_m_len : Value}
    {c0 c1 c2 c3 c4 c5 c6 c7 : Addr}
    {C_PickError : Addr}
    {t_MOST_THINGS : Tok}
    {f_law_ : Addr} {od_law an_law : Option Addr} {sl_law : Array (Option Value)} {oc_law kV_law dc_law pm_law ct_law : Value}
    {c_law_ P_law : Addr}
    (X : K.In h) (G : h.Ns mainGlobals mg) (hfa : mg "law" = some (.ref fa))
    (a_is_whole : PySem.W.nsIn K mainGlobals "is_whole" = some (some (.ref f_is_whole_)))
    (l_is_whole : K.lookup f_is_whole_ = some ⟨oc_is_whole, od_is_whole, .func (PySem.W.fnOf "is_whole" "is_whole" (defArgs s_is_whole) (defBody s_is_whole) (defScope s_is_whole) .none kV_is_whole dc_is_whole pm_is_whole an_is_whole cd_is_whole ct_is_whole), sl_is_whole⟩)
    (c_is_whole : PySem.W.codeIn K cd_is_whole "is_whole" = true)
    (k_is_whole : PySem.W.keepIn K (.ref f_is_whole_) = true)
    (a_within : PySem.W.nsIn K mainGlobals "within" = some (some (.ref f_within_)))
    (l_within : K.lookup f_within_ = some ⟨oc_within, od_within, .func (PySem.W.fnOf "within" "within" (defArgs s_within) (defBody s_within) (defScope s_within) .none kV_within dc_within pm_within an_within cd_within ct_within), sl_within⟩)
    (c_within : PySem.W.codeIn K cd_within "within" = true)
    (k_within : PySem.W.keepIn K (.ref f_within_) = true)
    (a_may_be : PySem.W.nsIn K mainGlobals "may_be" = some (some (.ref f_may_be_)))
    (l_may_be : K.lookup f_may_be_ = some ⟨oc_may_be, od_may_be, .func (PySem.W.fnOf "may_be" "may_be" (defArgs s_may_be) (defBody s_may_be) (defScope s_may_be) .none kV_may_be dc_may_be pm_may_be an_may_be cd_may_be ct_may_be), sl_may_be⟩)
    (c_may_be : PySem.W.codeIn K cd_may_be "may_be" = true)
    (k_may_be : PySem.W.keepIn K (.ref f_may_be_) = true)
    (a_greatest_in : PySem.W.nsIn K mainGlobals "greatest_in" = some (some (.ref f_greatest_in_)))
    (l_greatest_in : K.lookup f_greatest_in_ = some ⟨oc_greatest_in, od_greatest_in, .func (PySem.W.fnOf "greatest_in" "greatest_in" (defArgs s_greatest_in) (defBody s_greatest_in) (defScope s_greatest_in) .none kV_greatest_in dc_greatest_in pm_greatest_in an_greatest_in cd_greatest_in ct_greatest_in), sl_greatest_in⟩)
    (c_greatest_in : PySem.W.codeIn K cd_greatest_in "greatest_in" = true)
    (k_greatest_in : PySem.W.keepIn K (.ref f_greatest_in_) = true)
    (a_is_set : PySem.W.nsIn K mainGlobals "is_set" = some (some (.ref f_is_set_)))
    (l_is_set : K.lookup f_is_set_ = some ⟨oc_is_set, od_is_set, .func (PySem.W.fnOf "is_set" "is_set" (defArgs s_is_set) (defBody s_is_set) (defScope s_is_set) .none kV_is_set dc_is_set pm_is_set an_is_set cd_is_set ct_is_set), sl_is_set⟩)
    (c_is_set : PySem.W.codeIn K cd_is_set "is_set" = true)
    (k_is_set : PySem.W.keepIn K (.ref f_is_set_) = true)
    (a_is_family : PySem.W.nsIn K mainGlobals "is_family" = some (some (.ref f_is_family_)))
    (l_is_family : K.lookup f_is_family_ = some ⟨oc_is_family, od_is_family, .func (PySem.W.fnOf "is_family" "is_family" (defArgs s_is_family) (defBody s_is_family) (defScope s_is_family) .none kV_is_family dc_is_family pm_is_family an_is_family cd_is_family ct_is_family), sl_is_family⟩)
    (c_is_family : PySem.W.codeIn K cd_is_family "is_family" = true)
    (k_is_family : PySem.W.keepIn K (.ref f_is_family_) = true)
    (a_need_family : PySem.W.nsIn K mainGlobals "need_family" = some (some (.ref f_need_family_)))
    (l_need_family : K.lookup f_need_family_ = some ⟨oc_need_family, od_need_family, .func (PySem.W.fnOf "need_family" "need_family" (defArgs s_need_family) (defBody s_need_family) (defScope s_need_family) .none kV_need_family dc_need_family pm_need_family an_need_family cd_need_family ct_need_family), sl_need_family⟩)
    (c_need_family : PySem.W.codeIn K cd_need_family "need_family" = true)
    (k_need_family : PySem.W.keepIn K (.ref f_need_family_) = true)
    (a_law_drawn : PySem.W.nsIn K mainGlobals "_law_drawn" = some (some (.ref f_law_drawn_)))
    (l_law_drawn : K.lookup f_law_drawn_ = some ⟨oc_law_drawn, od_law_drawn, .func (PySem.W.fnOf "_law_drawn" "_law_drawn" (defArgs s_law_drawn) (defBody s_law_drawn) (defScope s_law_drawn) .none kV_law_drawn dc_law_drawn pm_law_drawn an_law_drawn cd_law_drawn ct_law_drawn), sl_law_drawn⟩)
    (c_law_drawn : PySem.W.codeIn K cd_law_drawn "_law_drawn" = true)
    (k_law_drawn : PySem.W.keepIn K (.ref f_law_drawn_) = true)
    (a_law_roll : PySem.W.nsIn K mainGlobals "_law_roll" = some (some (.ref f_law_roll_)))
    (l_law_roll : K.lookup f_law_roll_ = some ⟨oc_law_roll, od_law_roll, .func (PySem.W.fnOf "_law_roll" "_law_roll" (defArgs s_law_roll) (defBody s_law_roll) (defScope s_law_roll) .none kV_law_roll dc_law_roll pm_law_roll an_law_roll cd_law_roll ct_law_roll), sl_law_roll⟩)
    (c_law_roll : PySem.W.codeIn K cd_law_roll "_law_roll" = true)
    (k_law_roll : PySem.W.keepIn K (.ref f_law_roll_) = true)
    (a_law_cell : PySem.W.nsIn K mainGlobals "_law_cell" = some (some (.ref f_law_cell_)))
    (l_law_cell : K.lookup f_law_cell_ = some ⟨oc_law_cell, od_law_cell, .func (PySem.W.fnOf "_law_cell" "_law_cell" (defArgs s_law_cell) (defBody s_law_cell) (defScope s_law_cell) .none kV_law_cell dc_law_cell pm_law_cell an_law_cell cd_law_cell ct_law_cell), sl_law_cell⟩)
    (c_law_cell : PySem.W.codeIn K cd_law_cell "_law_cell" = true)
    (k_law_cell : PySem.W.keepIn K (.ref f_law_cell_) = true)
    (a_law_rounds : PySem.W.nsIn K mainGlobals "_law_rounds" = some (some (.ref f_law_rounds_)))
    (l_law_rounds : K.lookup f_law_rounds_ = some ⟨oc_law_rounds, od_law_rounds, .func (PySem.W.fnOf "_law_rounds" "_law_rounds" (defArgs s_law_rounds) (defBody s_law_rounds) (defScope s_law_rounds) .none kV_law_rounds dc_law_rounds pm_law_rounds an_law_rounds cd_law_rounds ct_law_rounds), sl_law_rounds⟩)
    (c_law_rounds : PySem.W.codeIn K cd_law_rounds "_law_rounds" = true)
    (k_law_rounds : PySem.W.keepIn K (.ref f_law_rounds_) = true)
    (a_law_inside : PySem.W.nsIn K mainGlobals "_law_inside" = some (some (.ref f_law_inside_)))
    (l_law_inside : K.lookup f_law_inside_ = some ⟨oc_law_inside, od_law_inside, .func (PySem.W.fnOf "_law_inside" "_law_inside" (defArgs s_law_inside) (defBody s_law_inside) (defScope s_law_inside) .none kV_law_inside dc_law_inside pm_law_inside an_law_inside cd_law_inside ct_law_inside), sl_law_inside⟩)
    (c_law_inside : PySem.W.codeIn K cd_law_inside "_law_inside" = true)
    (k_law_inside : PySem.W.keepIn K (.ref f_law_inside_) = true)
    (a_law_top : PySem.W.nsIn K mainGlobals "_law_top" = some (some (.ref f_law_top_)))
    (l_law_top : K.lookup f_law_top_ = some ⟨oc_law_top, od_law_top, .func (PySem.W.fnOf "_law_top" "_law_top" (defArgs s_law_top) (defBody s_law_top) (defScope s_law_top) .none kV_law_top dc_law_top pm_law_top an_law_top cd_law_top ct_law_top), sl_law_top⟩)
    (c_law_top : PySem.W.codeIn K cd_law_top "_law_top" = true)
    (k_law_top : PySem.W.keepIn K (.ref f_law_top_) = true)
    (a_law_family : PySem.W.nsIn K mainGlobals "_law_family" = some (some (.ref f_law_family_)))
    (l_law_family : K.lookup f_law_family_ = some ⟨oc_law_family, od_law_family, .func (PySem.W.fnOf "_law_family" "_law_family" (defArgs s_law_family) (defBody s_law_family) (defScope s_law_family) .none kV_law_family dc_law_family pm_law_family an_law_family cd_law_family ct_law_family), sl_law_family⟩)
    (c_law_family : PySem.W.codeIn K cd_law_family "_law_family" = true)
    (k_law_family : PySem.W.keepIn K (.ref f_law_family_) = true)
    (a_law_may : PySem.W.nsIn K mainGlobals "_law_may" = some (some (.ref f_law_may_)))
    (l_law_may : K.lookup f_law_may_ = some ⟨oc_law_may, od_law_may, .func (PySem.W.fnOf "_law_may" "_law_may" (defArgs s_law_may) (defBody s_law_may) (defScope s_law_may) .none kV_law_may dc_law_may pm_law_may an_law_may cd_law_may ct_law_may), sl_law_may⟩)
    (c_law_may : PySem.W.codeIn K cd_law_may "_law_may" = true)
    (k_law_may : PySem.W.keepIn K (.ref f_law_may_) = true)
    (a_law_term : PySem.W.nsIn K mainGlobals "_law_term" = some (some (.ref f_law_term_)))
    (l_law_term : K.lookup f_law_term_ = some ⟨oc_law_term, od_law_term, .func (PySem.W.fnOf "_law_term" "_law_term" (defArgs s_law_term) (defBody s_law_term) (defScope s_law_term) .none kV_law_term dc_law_term pm_law_term an_law_term cd_law_term ct_law_term), sl_law_term⟩)
    (c_law_term : PySem.W.codeIn K cd_law_term "_law_term" = true)
    (k_law_term : PySem.W.keepIn K (.ref f_law_term_) = true)
    (a_law_told : PySem.W.nsIn K mainGlobals "_law_told" = some (some (.ref f_law_told_)))
    (l_law_told : K.lookup f_law_told_ = some ⟨oc_law_told, od_law_told, .func (PySem.W.fnOf "_law_told" "_law_told" (defArgs s_law_told) (defBody s_law_told) (defScope s_law_told) .none kV_law_told dc_law_told pm_law_told an_law_told cd_law_told ct_law_told), sl_law_told⟩)
    (c_law_told : PySem.W.codeIn K cd_law_told "_law_told" = true)
    (k_law_told : PySem.W.keepIn K (.ref f_law_told_) = true)
    (a_law_free : PySem.W.nsIn K mainGlobals "_law_free" = some (some (.ref f_law_free_)))
    (l_law_free : K.lookup f_law_free_ = some ⟨oc_law_free, od_law_free, .func (PySem.W.fnOf "_law_free" "_law_free" (defArgs s_law_free) (defBody s_law_free) (defScope s_law_free) .none kV_law_free dc_law_free pm_law_free an_law_free cd_law_free ct_law_free), sl_law_free⟩)
    (c_law_free : PySem.W.codeIn K cd_law_free "_law_free" = true)
    (k_law_free : PySem.W.keepIn K (.ref f_law_free_) = true)
    (a_law_end : PySem.W.nsIn K mainGlobals "_law_end" = some (some (.ref f_law_end_)))
    (l_law_end : K.lookup f_law_end_ = some ⟨oc_law_end, od_law_end, .func (PySem.W.fnOf "_law_end" "_law_end" (defArgs s_law_end) (defBody s_law_end) (defScope s_law_end) .none kV_law_end dc_law_end pm_law_end an_law_end (.ref c_law_end_) ct_law_end), sl_law_end⟩)
    (c_law_end : PySem.W.codeIn K (.ref c_law_end_) "_law_end" = true)
    (k_law_end : PySem.W.keepIn K (.ref f_law_end_) = true)
    (aC : PySem.W.nsIn K mainGlobals "Basket" = some (some (.ref C)))
    (pg : PySem.W.plainGet K C Str.empty = true)
    (hd : PySem.W.hasDictIn K C = true)
    (po : PySem.W.plainOver K C = true)
    (sa : PySem.W.findIn K (.ref C) "__setattr__" = some (some (.builtin "object.__setattr__")))
    (mkB : PySem.W.makesIn K C = true)
    (kcB : PySem.W.keepIn K (.ref C) = true)
    (nF : PySem.W.findIn K (.ref C) "family" = some none)
    (nR : PySem.W.findIn K (.ref C) "rows" = some none)
    (nU : PySem.W.findIn K (.ref C) "undone" = some none)
    (yA : PySem.W.findIn K (.ref C) "__class__" = some (some (.builtin "object.__class__")))
    (yN : PySem.W.specialIn K (.builtin "object.__class__") "__get__" = some (some (.builtin "getset_descriptor.__get__")))
    (yT : PySem.W.takesIn K (.builtin "object.__class__") = some true)
    (yM : PySem.W.mroIn K C (.type "object") = some true)
    (yK : PySem.W.kitOne K (.ref C) (.ref C) = some true)
    (yI : PySem.W.kitOne K (.type "int") (.ref C) = some false)
    (yF : PySem.W.notFirst K C (.type "int") = true)
    (a_m_picked : PySem.W.findIn K (.ref C) "picked" = some (some (.ref f_m_picked_)))
    (i_m_picked : PySem.W.isFn K (.ref f_m_picked_) = true)
    (l_m_picked : K.lookup f_m_picked_ = some ⟨oc_m_picked, od_m_picked, .func (PySem.W.fnOf "picked" "Basket.picked" (defArgs s_Basket_picked) (defBody s_Basket_picked) (defScope s_Basket_picked) .none kV_m_picked dc_m_picked pm_m_picked an_m_picked cd_m_picked ct_m_picked), sl_m_picked⟩)
    (c_m_picked : PySem.W.codeIn K cd_m_picked "Basket.picked" = true)
    (k_m_picked : PySem.W.keepIn K (.ref f_m_picked_) = true)
    (a_m_free : PySem.W.findIn K (.ref C) "free" = some (some (.ref f_m_free_)))
    (i_m_free : PySem.W.isFn K (.ref f_m_free_) = true)
    (l_m_free : K.lookup f_m_free_ = some ⟨oc_m_free, od_m_free, .func (PySem.W.fnOf "free" "Basket.free" (defArgs s_Basket_free) (defBody s_Basket_free) (defScope s_Basket_free) .none kV_m_free dc_m_free pm_m_free an_m_free cd_m_free ct_m_free), sl_m_free⟩)
    (c_m_free : PySem.W.codeIn K cd_m_free "Basket.free" = true)
    (k_m_free : PySem.W.keepIn K (.ref f_m_free_) = true)
    (a_m_take : PySem.W.findIn K (.ref C) "take" = some (some (.ref f_m_take_)))
    (i_m_take : PySem.W.isFn K (.ref f_m_take_) = true)
    (l_m_take : K.lookup f_m_take_ = some ⟨oc_m_take, od_m_take, .func (PySem.W.fnOf "take" "Basket.take" (defArgs s_Basket_take) (defBody s_Basket_take) (defScope s_Basket_take) .none kV_m_take dc_m_take pm_m_take an_m_take cd_m_take ct_m_take), sl_m_take⟩)
    (c_m_take : PySem.W.codeIn K cd_m_take "Basket.take" = true)
    (k_m_take : PySem.W.keepIn K (.ref f_m_take_) = true)
    (a_m_leave : PySem.W.findIn K (.ref C) "leave" = some (some (.ref f_m_leave_)))
    (i_m_leave : PySem.W.isFn K (.ref f_m_leave_) = true)
    (l_m_leave : K.lookup f_m_leave_ = some ⟨oc_m_leave, od_m_leave, .func (PySem.W.fnOf "leave" "Basket.leave" (defArgs s_Basket_leave) (defBody s_Basket_leave) (defScope s_Basket_leave) .none kV_m_leave dc_m_leave pm_m_leave an_m_leave cd_m_leave ct_m_leave), sl_m_leave⟩)
    (c_m_leave : PySem.W.codeIn K cd_m_leave "Basket.leave" = true)
    (k_m_leave : PySem.W.keepIn K (.ref f_m_leave_) = true)
    (a_m_undo : PySem.W.findIn K (.ref C) "undo" = some (some (.ref f_m_undo_)))
    (i_m_undo : PySem.W.isFn K (.ref f_m_undo_) = true)
    (l_m_undo : K.lookup f_m_undo_ = some ⟨oc_m_undo, od_m_undo, .func (PySem.W.fnOf "undo" "Basket.undo" (defArgs s_Basket_undo) (defBody s_Basket_undo) (defScope s_Basket_undo) .none kV_m_undo dc_m_undo pm_m_undo an_m_undo cd_m_undo ct_m_undo), sl_m_undo⟩)
    (c_m_undo : PySem.W.codeIn K cd_m_undo "Basket.undo" = true)
    (k_m_undo : PySem.W.keepIn K (.ref f_m_undo_) = true)
    (a_m_redo : PySem.W.findIn K (.ref C) "redo" = some (some (.ref f_m_redo_)))
    (i_m_redo : PySem.W.isFn K (.ref f_m_redo_) = true)
    (l_m_redo : K.lookup f_m_redo_ = some ⟨oc_m_redo, od_m_redo, .func (PySem.W.fnOf "redo" "Basket.redo" (defArgs s_Basket_redo) (defBody s_Basket_redo) (defScope s_Basket_redo) .none kV_m_redo dc_m_redo pm_m_redo an_m_redo cd_m_redo ct_m_redo), sl_m_redo⟩)
    (c_m_redo : PySem.W.codeIn K cd_m_redo "Basket.redo" = true)
    (k_m_redo : PySem.W.keepIn K (.ref f_m_redo_) = true)
    (a_m_init : PySem.W.findIn K (.ref C) "__init__" = some (some (.ref f_m_init_)))
    (i_m_init : PySem.W.isFn K (.ref f_m_init_) = true)
    (l_m_init : K.lookup f_m_init_ = some ⟨oc_m_init, od_m_init, .func (PySem.W.fnOf "__init__" "Basket.__init__" (defArgs s_Basket_init) (defBody s_Basket_init) (defScope s_Basket_init) .none kV_m_init dc_m_init pm_m_init an_m_init cd_m_init ct_m_init), sl_m_init⟩)
    (c_m_init : PySem.W.codeIn K cd_m_init "Basket.__init__" = true)
    (k_m_init : PySem.W.keepIn K (.ref f_m_init_) = true)
    (a_m_eq : PySem.W.findIn K (.ref C) "__eq__" = some (some (.ref f_m_eq_)))
    (i_m_eq : PySem.W.isFn K (.ref f_m_eq_) = true)
    (l_m_eq : K.lookup f_m_eq_ = some ⟨oc_m_eq, od_m_eq, .func (PySem.W.fnOf "__eq__" "Basket.__eq__" (defArgs s_Basket_eq) (defBody s_Basket_eq) (defScope s_Basket_eq) .none kV_m_eq dc_m_eq pm_m_eq an_m_eq cd_m_eq ct_m_eq), sl_m_eq⟩)
    (c_m_eq : PySem.W.codeIn K cd_m_eq "Basket.__eq__" = true)
    (k_m_eq : PySem.W.keepIn K (.ref f_m_eq_) = true)
    (a_m_len : PySem.W.findIn K (.ref C) "__len__" = some (some (.ref f_m_len_)))
    (i_m_len : PySem.W.isFn K (.ref f_m_len_) = true)
    (l_m_len : K.lookup f_m_len_ = some ⟨oc_m_len, od_m_len, .func (PySem.W.fnOf "__len__" "Basket.__len__" (defArgs s_Basket_len) (defBody s_Basket_len) (defScope s_Basket_len) .none kV_m_len dc_m_len pm_m_len an_m_len cd_m_len ct_m_len), sl_m_len⟩)
    (c_m_len : PySem.W.codeIn K cd_m_len "Basket.__len__" = true)
    (k_m_len : PySem.W.keepIn K (.ref f_m_len_) = true)
    (g_InvalidFamily : PySem.W.nsIn K mainGlobals "InvalidFamily" = some (some (.ref c0)))
    (g_InvalidRule : PySem.W.nsIn K mainGlobals "InvalidRule" = some (some (.ref c1)))
    (g_InvalidWorths : PySem.W.nsIn K mainGlobals "InvalidWorths" = some (some (.ref c2)))
    (g_InvalidShare : PySem.W.nsIn K mainGlobals "InvalidShare" = some (some (.ref c3)))
    (g_InvalidThings : PySem.W.nsIn K mainGlobals "InvalidThings" = some (some (.ref c4)))
    (g_InvalidText : PySem.W.nsIn K mainGlobals "InvalidText" = some (some (.ref c5)))
    (g_TooMany : PySem.W.nsIn K mainGlobals "TooMany" = some (some (.ref c6)))
    (g_NothingToUndo : PySem.W.nsIn K mainGlobals "NothingToUndo" = some (some (.ref c7)))
    (q_InvalidFamily : PySem.W.excIn K c0 [.type "ValueError", .type "Exception", .type "BaseException", .type "object"] "ValueError.__new__" = true)
    (kx_InvalidFamily : PySem.W.keepIn K (.ref c0) = true)
    (sb_InvalidFamily : PySem.W.subIn K (.ref c0) (.type "BaseException") = some true)
    (ty_InvalidFamily : PySem.W.typeIn K (.ref c0) = some (.type "type"))
    (xg_InvalidFamily : PySem.W.findIn K (.ref c0) "__getattribute__" = some (some (.builtin "BaseException.__getattribute__")))
    (xk_InvalidFamily : PySem.W.findIn K (.ref c0) "__getattr__" = some none)
    (xd_InvalidFamily : PySem.W.hasDictIn K c0 = true)
    (xa_InvalidFamily : PySem.W.findIn K (.ref c0) "__class__" = some (some (.builtin "object.__class__")))
    (xm_InvalidFamily : PySem.W.mroIn K c0 (.type "object") = some true)
    (em_InvalidFamily : PySem.W.exmOne K (.ref c0) (.ref C_PickError) = some true)
    (kv_InvalidFamily : PySem.W.kitOne K (.ref c0) (.type "ValueError") = some true)
    (ko_0_0 : PySem.W.kitOne K (.ref c0) (.ref c0) = some true)
    (ko_0_1 : PySem.W.kitOne K (.ref c0) (.ref c1) = some false)
    (ko_0_2 : PySem.W.kitOne K (.ref c0) (.ref c2) = some false)
    (ko_0_3 : PySem.W.kitOne K (.ref c0) (.ref c3) = some false)
    (ko_0_4 : PySem.W.kitOne K (.ref c0) (.ref c4) = some false)
    (ko_0_5 : PySem.W.kitOne K (.ref c0) (.ref c5) = some false)
    (ko_0_6 : PySem.W.kitOne K (.ref c0) (.ref c6) = some false)
    (ko_0_7 : PySem.W.kitOne K (.ref c0) (.ref c7) = some false)
    (q_InvalidRule : PySem.W.excIn K c1 [.type "ValueError", .type "Exception", .type "BaseException", .type "object"] "ValueError.__new__" = true)
    (kx_InvalidRule : PySem.W.keepIn K (.ref c1) = true)
    (sb_InvalidRule : PySem.W.subIn K (.ref c1) (.type "BaseException") = some true)
    (ty_InvalidRule : PySem.W.typeIn K (.ref c1) = some (.type "type"))
    (xg_InvalidRule : PySem.W.findIn K (.ref c1) "__getattribute__" = some (some (.builtin "BaseException.__getattribute__")))
    (xk_InvalidRule : PySem.W.findIn K (.ref c1) "__getattr__" = some none)
    (xd_InvalidRule : PySem.W.hasDictIn K c1 = true)
    (xa_InvalidRule : PySem.W.findIn K (.ref c1) "__class__" = some (some (.builtin "object.__class__")))
    (xm_InvalidRule : PySem.W.mroIn K c1 (.type "object") = some true)
    (em_InvalidRule : PySem.W.exmOne K (.ref c1) (.ref C_PickError) = some true)
    (kv_InvalidRule : PySem.W.kitOne K (.ref c1) (.type "ValueError") = some true)
    (ko_1_0 : PySem.W.kitOne K (.ref c1) (.ref c0) = some false)
    (ko_1_1 : PySem.W.kitOne K (.ref c1) (.ref c1) = some true)
    (ko_1_2 : PySem.W.kitOne K (.ref c1) (.ref c2) = some false)
    (ko_1_3 : PySem.W.kitOne K (.ref c1) (.ref c3) = some false)
    (ko_1_4 : PySem.W.kitOne K (.ref c1) (.ref c4) = some false)
    (ko_1_5 : PySem.W.kitOne K (.ref c1) (.ref c5) = some false)
    (ko_1_6 : PySem.W.kitOne K (.ref c1) (.ref c6) = some false)
    (ko_1_7 : PySem.W.kitOne K (.ref c1) (.ref c7) = some false)
    (q_InvalidWorths : PySem.W.excIn K c2 [.type "ValueError", .type "Exception", .type "BaseException", .type "object"] "ValueError.__new__" = true)
    (kx_InvalidWorths : PySem.W.keepIn K (.ref c2) = true)
    (sb_InvalidWorths : PySem.W.subIn K (.ref c2) (.type "BaseException") = some true)
    (ty_InvalidWorths : PySem.W.typeIn K (.ref c2) = some (.type "type"))
    (xg_InvalidWorths : PySem.W.findIn K (.ref c2) "__getattribute__" = some (some (.builtin "BaseException.__getattribute__")))
    (xk_InvalidWorths : PySem.W.findIn K (.ref c2) "__getattr__" = some none)
    (xd_InvalidWorths : PySem.W.hasDictIn K c2 = true)
    (xa_InvalidWorths : PySem.W.findIn K (.ref c2) "__class__" = some (some (.builtin "object.__class__")))
    (xm_InvalidWorths : PySem.W.mroIn K c2 (.type "object") = some true)
    (em_InvalidWorths : PySem.W.exmOne K (.ref c2) (.ref C_PickError) = some true)
    (kv_InvalidWorths : PySem.W.kitOne K (.ref c2) (.type "ValueError") = some true)
    (ko_2_0 : PySem.W.kitOne K (.ref c2) (.ref c0) = some false)
    (ko_2_1 : PySem.W.kitOne K (.ref c2) (.ref c1) = some false)
    (ko_2_2 : PySem.W.kitOne K (.ref c2) (.ref c2) = some true)
    (ko_2_3 : PySem.W.kitOne K (.ref c2) (.ref c3) = some false)
    (ko_2_4 : PySem.W.kitOne K (.ref c2) (.ref c4) = some false)
    (ko_2_5 : PySem.W.kitOne K (.ref c2) (.ref c5) = some false)
    (ko_2_6 : PySem.W.kitOne K (.ref c2) (.ref c6) = some false)
    (ko_2_7 : PySem.W.kitOne K (.ref c2) (.ref c7) = some false)
    (q_InvalidShare : PySem.W.excIn K c3 [.type "ValueError", .type "Exception", .type "BaseException", .type "object"] "ValueError.__new__" = true)
    (kx_InvalidShare : PySem.W.keepIn K (.ref c3) = true)
    (sb_InvalidShare : PySem.W.subIn K (.ref c3) (.type "BaseException") = some true)
    (ty_InvalidShare : PySem.W.typeIn K (.ref c3) = some (.type "type"))
    (xg_InvalidShare : PySem.W.findIn K (.ref c3) "__getattribute__" = some (some (.builtin "BaseException.__getattribute__")))
    (xk_InvalidShare : PySem.W.findIn K (.ref c3) "__getattr__" = some none)
    (xd_InvalidShare : PySem.W.hasDictIn K c3 = true)
    (xa_InvalidShare : PySem.W.findIn K (.ref c3) "__class__" = some (some (.builtin "object.__class__")))
    (xm_InvalidShare : PySem.W.mroIn K c3 (.type "object") = some true)
    (em_InvalidShare : PySem.W.exmOne K (.ref c3) (.ref C_PickError) = some true)
    (kv_InvalidShare : PySem.W.kitOne K (.ref c3) (.type "ValueError") = some true)
    (ko_3_0 : PySem.W.kitOne K (.ref c3) (.ref c0) = some false)
    (ko_3_1 : PySem.W.kitOne K (.ref c3) (.ref c1) = some false)
    (ko_3_2 : PySem.W.kitOne K (.ref c3) (.ref c2) = some false)
    (ko_3_3 : PySem.W.kitOne K (.ref c3) (.ref c3) = some true)
    (ko_3_4 : PySem.W.kitOne K (.ref c3) (.ref c4) = some false)
    (ko_3_5 : PySem.W.kitOne K (.ref c3) (.ref c5) = some false)
    (ko_3_6 : PySem.W.kitOne K (.ref c3) (.ref c6) = some false)
    (ko_3_7 : PySem.W.kitOne K (.ref c3) (.ref c7) = some false)
    (q_InvalidThings : PySem.W.excIn K c4 [.type "ValueError", .type "Exception", .type "BaseException", .type "object"] "ValueError.__new__" = true)
    (kx_InvalidThings : PySem.W.keepIn K (.ref c4) = true)
    (sb_InvalidThings : PySem.W.subIn K (.ref c4) (.type "BaseException") = some true)
    (ty_InvalidThings : PySem.W.typeIn K (.ref c4) = some (.type "type"))
    (xg_InvalidThings : PySem.W.findIn K (.ref c4) "__getattribute__" = some (some (.builtin "BaseException.__getattribute__")))
    (xk_InvalidThings : PySem.W.findIn K (.ref c4) "__getattr__" = some none)
    (xd_InvalidThings : PySem.W.hasDictIn K c4 = true)
    (xa_InvalidThings : PySem.W.findIn K (.ref c4) "__class__" = some (some (.builtin "object.__class__")))
    (xm_InvalidThings : PySem.W.mroIn K c4 (.type "object") = some true)
    (em_InvalidThings : PySem.W.exmOne K (.ref c4) (.ref C_PickError) = some true)
    (kv_InvalidThings : PySem.W.kitOne K (.ref c4) (.type "ValueError") = some true)
    (ko_4_0 : PySem.W.kitOne K (.ref c4) (.ref c0) = some false)
    (ko_4_1 : PySem.W.kitOne K (.ref c4) (.ref c1) = some false)
    (ko_4_2 : PySem.W.kitOne K (.ref c4) (.ref c2) = some false)
    (ko_4_3 : PySem.W.kitOne K (.ref c4) (.ref c3) = some false)
    (ko_4_4 : PySem.W.kitOne K (.ref c4) (.ref c4) = some true)
    (ko_4_5 : PySem.W.kitOne K (.ref c4) (.ref c5) = some false)
    (ko_4_6 : PySem.W.kitOne K (.ref c4) (.ref c6) = some false)
    (ko_4_7 : PySem.W.kitOne K (.ref c4) (.ref c7) = some false)
    (q_InvalidText : PySem.W.excIn K c5 [.type "ValueError", .type "Exception", .type "BaseException", .type "object"] "ValueError.__new__" = true)
    (kx_InvalidText : PySem.W.keepIn K (.ref c5) = true)
    (sb_InvalidText : PySem.W.subIn K (.ref c5) (.type "BaseException") = some true)
    (ty_InvalidText : PySem.W.typeIn K (.ref c5) = some (.type "type"))
    (xg_InvalidText : PySem.W.findIn K (.ref c5) "__getattribute__" = some (some (.builtin "BaseException.__getattribute__")))
    (xk_InvalidText : PySem.W.findIn K (.ref c5) "__getattr__" = some none)
    (xd_InvalidText : PySem.W.hasDictIn K c5 = true)
    (xa_InvalidText : PySem.W.findIn K (.ref c5) "__class__" = some (some (.builtin "object.__class__")))
    (xm_InvalidText : PySem.W.mroIn K c5 (.type "object") = some true)
    (em_InvalidText : PySem.W.exmOne K (.ref c5) (.ref C_PickError) = some true)
    (kv_InvalidText : PySem.W.kitOne K (.ref c5) (.type "ValueError") = some true)
    (ko_5_0 : PySem.W.kitOne K (.ref c5) (.ref c0) = some false)
    (ko_5_1 : PySem.W.kitOne K (.ref c5) (.ref c1) = some false)
    (ko_5_2 : PySem.W.kitOne K (.ref c5) (.ref c2) = some false)
    (ko_5_3 : PySem.W.kitOne K (.ref c5) (.ref c3) = some false)
    (ko_5_4 : PySem.W.kitOne K (.ref c5) (.ref c4) = some false)
    (ko_5_5 : PySem.W.kitOne K (.ref c5) (.ref c5) = some true)
    (ko_5_6 : PySem.W.kitOne K (.ref c5) (.ref c6) = some false)
    (ko_5_7 : PySem.W.kitOne K (.ref c5) (.ref c7) = some false)
    (q_TooMany : PySem.W.excIn K c6 [.type "ValueError", .type "Exception", .type "BaseException", .type "object"] "ValueError.__new__" = true)
    (kx_TooMany : PySem.W.keepIn K (.ref c6) = true)
    (sb_TooMany : PySem.W.subIn K (.ref c6) (.type "BaseException") = some true)
    (ty_TooMany : PySem.W.typeIn K (.ref c6) = some (.type "type"))
    (xg_TooMany : PySem.W.findIn K (.ref c6) "__getattribute__" = some (some (.builtin "BaseException.__getattribute__")))
    (xk_TooMany : PySem.W.findIn K (.ref c6) "__getattr__" = some none)
    (xd_TooMany : PySem.W.hasDictIn K c6 = true)
    (xa_TooMany : PySem.W.findIn K (.ref c6) "__class__" = some (some (.builtin "object.__class__")))
    (xm_TooMany : PySem.W.mroIn K c6 (.type "object") = some true)
    (em_TooMany : PySem.W.exmOne K (.ref c6) (.ref C_PickError) = some true)
    (kv_TooMany : PySem.W.kitOne K (.ref c6) (.type "ValueError") = some true)
    (ko_6_0 : PySem.W.kitOne K (.ref c6) (.ref c0) = some false)
    (ko_6_1 : PySem.W.kitOne K (.ref c6) (.ref c1) = some false)
    (ko_6_2 : PySem.W.kitOne K (.ref c6) (.ref c2) = some false)
    (ko_6_3 : PySem.W.kitOne K (.ref c6) (.ref c3) = some false)
    (ko_6_4 : PySem.W.kitOne K (.ref c6) (.ref c4) = some false)
    (ko_6_5 : PySem.W.kitOne K (.ref c6) (.ref c5) = some false)
    (ko_6_6 : PySem.W.kitOne K (.ref c6) (.ref c6) = some true)
    (ko_6_7 : PySem.W.kitOne K (.ref c6) (.ref c7) = some false)
    (q_NothingToUndo : PySem.W.excIn K c7 [.type "ValueError", .type "Exception", .type "BaseException", .type "object"] "ValueError.__new__" = true)
    (kx_NothingToUndo : PySem.W.keepIn K (.ref c7) = true)
    (sb_NothingToUndo : PySem.W.subIn K (.ref c7) (.type "BaseException") = some true)
    (ty_NothingToUndo : PySem.W.typeIn K (.ref c7) = some (.type "type"))
    (xg_NothingToUndo : PySem.W.findIn K (.ref c7) "__getattribute__" = some (some (.builtin "BaseException.__getattribute__")))
    (xk_NothingToUndo : PySem.W.findIn K (.ref c7) "__getattr__" = some none)
    (xd_NothingToUndo : PySem.W.hasDictIn K c7 = true)
    (xa_NothingToUndo : PySem.W.findIn K (.ref c7) "__class__" = some (some (.builtin "object.__class__")))
    (xm_NothingToUndo : PySem.W.mroIn K c7 (.type "object") = some true)
    (em_NothingToUndo : PySem.W.exmOne K (.ref c7) (.ref C_PickError) = some true)
    (kv_NothingToUndo : PySem.W.kitOne K (.ref c7) (.type "ValueError") = some true)
    (ko_7_0 : PySem.W.kitOne K (.ref c7) (.ref c0) = some false)
    (ko_7_1 : PySem.W.kitOne K (.ref c7) (.ref c1) = some false)
    (ko_7_2 : PySem.W.kitOne K (.ref c7) (.ref c2) = some false)
    (ko_7_3 : PySem.W.kitOne K (.ref c7) (.ref c3) = some false)
    (ko_7_4 : PySem.W.kitOne K (.ref c7) (.ref c4) = some false)
    (ko_7_5 : PySem.W.kitOne K (.ref c7) (.ref c5) = some false)
    (ko_7_6 : PySem.W.kitOne K (.ref c7) (.ref c6) = some false)
    (ko_7_7 : PySem.W.kitOne K (.ref c7) (.ref c7) = some true)
    (zVE : PySem.W.nsIn K mainGlobals "ValueError" = some none)
    (g_PickError : PySem.W.nsIn K mainGlobals "PickError" = some (some (.ref C_PickError)))
    (n_MOST_THINGS : PySem.W.nsIn K mainGlobals "MOST_THINGS" = some (some (.int 5 t_MOST_THINGS)))
    (xN : PySem.W.specialIn K (.builtin "object.__class__") "__get__" = some (some (.builtin "getset_descriptor.__get__")))
    (xT : PySem.W.takesIn K (.builtin "object.__class__") = some true)
    (z_all : PySem.W.nsIn K mainGlobals "all" = some none)
    (z_any : PySem.W.nsIn K mainGlobals "any" = some none)
    (z_sorted : PySem.W.nsIn K mainGlobals "sorted" = some none)
    (z_set : PySem.W.nsIn K mainGlobals "set" = some none)
    (z_list : PySem.W.nsIn K mainGlobals "list" = some none)
    (z_tuple : PySem.W.nsIn K mainGlobals "tuple" = some none)
    (z_isinstance : PySem.W.nsIn K mainGlobals "isinstance" = some none)
    (z_int : PySem.W.nsIn K mainGlobals "int" = some none)
    (z_bool : PySem.W.nsIn K mainGlobals "bool" = some none)
    (z_str : PySem.W.nsIn K mainGlobals "str" = some none)
    (z_range : PySem.W.nsIn K mainGlobals "range" = some none)
    (z_len : PySem.W.nsIn K mainGlobals "len" = some none)
    (z_sum : PySem.W.nsIn K mainGlobals "sum" = some none)
    (z_min : PySem.W.nsIn K mainGlobals "min" = some none)
    (z_max : PySem.W.nsIn K mainGlobals "max" = some none)
    (z_enumerate : PySem.W.nsIn K mainGlobals "enumerate" = some none)
    (z_abs : PySem.W.nsIn K mainGlobals "abs" = some none)
    (a_law : PySem.W.nsIn K mainGlobals "law" = some (some (.ref f_law_)))
    (l_law : K.lookup f_law_ = some ⟨oc_law, od_law, .func (PySem.W.fnOf "law" "law" (defArgs s_law) (defBody s_law) (defScope s_law) .none kV_law dc_law pm_law an_law (.ref c_law_) ct_law), sl_law⟩)
    (c_law : PySem.W.codeIn K (.ref c_law_) "law" = true)
    (k_law : PySem.W.keepIn K (.ref f_law_) = true)
    (hT_law_end : h.get? P_law_end = some { cls := .none, data := .fields #[] })
    (nT_law_end : K.lookup P_law_end = none)
    (hC_law_end : PySem.W.codeHdIn K c_law_end_ P_law_end = true)
    (hT_law : h.get? P_law = some { cls := .none, data := .fields #[] })
    (nT_law : K.lookup P_law = none)
    (hC_law : PySem.W.codeHdIn K c_law_ P_law = true)
    (ne_law_end_law : (P_law_end == P_law) = false) :
    LamX.LawAtS l w K CX0 10 63 "script" mg fa h := by
  have e := hfa.symm.trans (PySem.W.mg_of X G a_law)
  cases e
  have F_is_whole := fun_mk (st := s_is_whole) l_is_whole c_is_whole k_is_whole
  have m_is_whole := PySem.W.mg_of X G a_is_whole
  have b_is_whole := F_is_whole.binds (ps := ["value", "low", "high"]) fun _ _ _ _ _ _ us hl => match us, hl with | [_, _, _], _ => rfl
  have F_within := fun_mk (st := s_within) l_within c_within k_within
  have m_within := PySem.W.mg_of X G a_within
  have b_within := F_within.binds (ps := ["one", "other"]) fun _ _ _ _ _ _ us hl => match us, hl with | [_, _], _ => rfl
  have F_may_be := fun_mk (st := s_may_be) l_may_be c_may_be k_may_be
  have m_may_be := PySem.W.mg_of X G a_may_be
  have b_may_be := F_may_be.binds (ps := ["family", "some"]) fun _ _ _ _ _ _ us hl => match us, hl with | [_, _], _ => rfl
  have F_greatest_in := fun_mk (st := s_greatest_in) l_greatest_in c_greatest_in k_greatest_in
  have m_greatest_in := PySem.W.mg_of X G a_greatest_in
  have b_greatest_in := F_greatest_in.binds (ps := ["sets"]) fun _ _ _ _ _ _ us hl => match us, hl with | [_], _ => rfl
  have F_is_set := fun_mk (st := s_is_set) l_is_set c_is_set k_is_set
  have m_is_set := PySem.W.mg_of X G a_is_set
  have b_is_set := F_is_set.binds (ps := ["value", "things"]) fun _ _ _ _ _ _ us hl => match us, hl with | [_, _], _ => rfl
  have F_is_family := fun_mk (st := s_is_family) l_is_family c_is_family k_is_family
  have m_is_family := PySem.W.mg_of X G a_is_family
  have b_is_family := F_is_family.binds (ps := ["value"]) fun _ _ _ _ _ _ us hl => match us, hl with | [_], _ => rfl
  have F_need_family := fun_mk (st := s_need_family) l_need_family c_need_family k_need_family
  have m_need_family := PySem.W.mg_of X G a_need_family
  have b_need_family := F_need_family.binds (ps := ["family"]) fun _ _ _ _ _ _ us hl => match us, hl with | [_], _ => rfl
  have F_law_drawn := fun_mk (st := s_law_drawn) l_law_drawn c_law_drawn k_law_drawn
  have m_law_drawn := PySem.W.mg_of X G a_law_drawn
  have b_law_drawn := F_law_drawn.binds (ps := ["cell", "k"]) fun _ _ _ _ _ _ us hl => match us, hl with | [_, _], _ => rfl
  have F_law_roll := fun_mk (st := s_law_roll) l_law_roll c_law_roll k_law_roll
  have m_law_roll := PySem.W.mg_of X G a_law_roll
  have b_law_roll := F_law_roll.binds (ps := ["dice", "many"]) fun _ _ _ _ _ _ us hl => match us, hl with | [_, _], _ => rfl
  have F_law_cell := fun_mk (st := s_law_cell) l_law_cell c_law_cell k_law_cell
  have m_law_cell := PySem.W.mg_of X G a_law_cell
  have b_law_cell := F_law_cell.binds (ps := ["script", "k"]) fun _ _ _ _ _ _ us hl => match us, hl with | [_, _], _ => rfl
  have F_law_rounds := fun_mk (st := s_law_rounds) l_law_rounds c_law_rounds k_law_rounds
  have m_law_rounds := PySem.W.mg_of X G a_law_rounds
  have b_law_rounds := F_law_rounds.binds (ps := ["script", "most"]) fun _ _ _ _ _ _ us hl => match us, hl with | [_, _], _ => rfl
  have F_law_inside := fun_mk (st := s_law_inside) l_law_inside c_law_inside k_law_inside
  have m_law_inside := PySem.W.mg_of X G a_law_inside
  have b_law_inside := F_law_inside.binds (ps := ["one", "other"]) fun _ _ _ _ _ _ us hl => match us, hl with | [_, _], _ => rfl
  have F_law_top := fun_mk (st := s_law_top) l_law_top c_law_top k_law_top
  have m_law_top := PySem.W.mg_of X G a_law_top
  have b_law_top := F_law_top.binds (ps := ["sets"]) fun _ _ _ _ _ _ us hl => match us, hl with | [_], _ => rfl
  have F_law_family := fun_mk (st := s_law_family) l_law_family c_law_family k_law_family
  have m_law_family := PySem.W.mg_of X G a_law_family
  have b_law_family := F_law_family.binds (ps := ["dice", "many"]) fun _ _ _ _ _ _ us hl => match us, hl with | [_, _], _ => rfl
  have F_law_may := fun_mk (st := s_law_may) l_law_may c_law_may k_law_may
  have m_law_may := PySem.W.mg_of X G a_law_may
  have b_law_may := F_law_may.binds (ps := ["family", "some"]) fun _ _ _ _ _ _ us hl => match us, hl with | [_, _], _ => rfl
  have F_law_term := fun_mk (st := s_law_term) l_law_term c_law_term k_law_term
  have m_law_term := PySem.W.mg_of X G a_law_term
  have b_law_term := F_law_term.binds (ps := ["e"]) fun _ _ _ _ _ _ us hl => match us, hl with | [_], _ => rfl
  have F_law_told := fun_mk (st := s_law_told) l_law_told c_law_told k_law_told
  have m_law_told := PySem.W.mg_of X G a_law_told
  have b_law_told := F_law_told.binds (ps := ["deed"]) fun _ _ _ _ _ _ us hl => match us, hl with | [_], _ => rfl
  have F_law_free := fun_mk (st := s_law_free) l_law_free c_law_free k_law_free
  have m_law_free := PySem.W.mg_of X G a_law_free
  have b_law_free := F_law_free.binds (ps := ["family", "now"]) fun _ _ _ _ _ _ us hl => match us, hl with | [_, _], _ => rfl
  have F_law_end := fun_mk (st := s_law_end) l_law_end c_law_end k_law_end
  have m_law_end := PySem.W.mg_of X G a_law_end
  have b_law_end := F_law_end.binds (ps := ["basket", "family", "rows"]) fun _ _ _ _ _ _ us hl => match us, hl with | [_, _, _], _ => rfl
  have T : BTx K mg C := ⟨⟨pg, hd, po, sa⟩, nF, nR, nU, PySem.W.mg_of X G aC⟩
  have Y : BTy K C := ⟨yA, yN, yT, yM, yK⟩
  have F_m_picked := fun_mk (st := s_Basket_picked) l_m_picked c_m_picked k_m_picked
  have b_m_picked := F_m_picked.binds (ps := ["self"]) fun _ _ _ _ _ _ us hl => match us, hl with | [_], _ => rfl
  have F_m_free := fun_mk (st := s_Basket_free) l_m_free c_m_free k_m_free
  have b_m_free := F_m_free.binds (ps := ["self"]) fun _ _ _ _ _ _ us hl => match us, hl with | [_], _ => rfl
  have F_m_take := fun_mk (st := s_Basket_take) l_m_take c_m_take k_m_take
  have b_m_take := F_m_take.binds (ps := ["self", "thing"]) fun _ _ _ _ _ _ us hl => match us, hl with | [_, _], _ => rfl
  have F_m_leave := fun_mk (st := s_Basket_leave) l_m_leave c_m_leave k_m_leave
  have b_m_leave := F_m_leave.binds (ps := ["self", "thing"]) fun _ _ _ _ _ _ us hl => match us, hl with | [_, _], _ => rfl
  have F_m_undo := fun_mk (st := s_Basket_undo) l_m_undo c_m_undo k_m_undo
  have b_m_undo := F_m_undo.binds (ps := ["self"]) fun _ _ _ _ _ _ us hl => match us, hl with | [_], _ => rfl
  have F_m_redo := fun_mk (st := s_Basket_redo) l_m_redo c_m_redo k_m_redo
  have b_m_redo := F_m_redo.binds (ps := ["self"]) fun _ _ _ _ _ _ us hl => match us, hl with | [_], _ => rfl
  have F_m_init := fun_mk (st := s_Basket_init) l_m_init c_m_init k_m_init
  have b_m_init := F_m_init.binds (ps := ["self", "family"]) fun _ _ _ _ _ _ us hl => match us, hl with | [_, _], _ => rfl
  have F_m_eq := fun_mk (st := s_Basket_eq) l_m_eq c_m_eq k_m_eq
  have b_m_eq := F_m_eq.binds (ps := ["self", "other"]) fun _ _ _ _ _ _ us hl => match us, hl with | [_, _], _ => rfl
  have F_m_len := fun_mk (st := s_Basket_len) l_m_len c_m_len k_m_len
  have b_m_len := F_m_len.binds (ps := ["self"]) fun _ _ _ _ _ _ us hl => match us, hl with | [_], _ => rfl
  let cx : Nat → Addr := fun i => [c0, c1, c2, c3, c4, c5, c6, c7].getD i 0
  have E_InvalidFamily : ExcT K mg "InvalidFamily" (cx 0) := ⟨PySem.W.mg_of X G g_InvalidFamily, q_InvalidFamily, kx_InvalidFamily, sb_InvalidFamily, ty_InvalidFamily⟩
  have E_InvalidRule : ExcT K mg "InvalidRule" (cx 1) := ⟨PySem.W.mg_of X G g_InvalidRule, q_InvalidRule, kx_InvalidRule, sb_InvalidRule, ty_InvalidRule⟩
  have E_InvalidWorths : ExcT K mg "InvalidWorths" (cx 2) := ⟨PySem.W.mg_of X G g_InvalidWorths, q_InvalidWorths, kx_InvalidWorths, sb_InvalidWorths, ty_InvalidWorths⟩
  have E_InvalidShare : ExcT K mg "InvalidShare" (cx 3) := ⟨PySem.W.mg_of X G g_InvalidShare, q_InvalidShare, kx_InvalidShare, sb_InvalidShare, ty_InvalidShare⟩
  have E_InvalidThings : ExcT K mg "InvalidThings" (cx 4) := ⟨PySem.W.mg_of X G g_InvalidThings, q_InvalidThings, kx_InvalidThings, sb_InvalidThings, ty_InvalidThings⟩
  have E_InvalidText : ExcT K mg "InvalidText" (cx 5) := ⟨PySem.W.mg_of X G g_InvalidText, q_InvalidText, kx_InvalidText, sb_InvalidText, ty_InvalidText⟩
  have E_TooMany : ExcT K mg "TooMany" (cx 6) := ⟨PySem.W.mg_of X G g_TooMany, q_TooMany, kx_TooMany, sb_TooMany, ty_TooMany⟩
  have E_NothingToUndo : ExcT K mg "NothingToUndo" (cx 7) := ⟨PySem.W.mg_of X G g_NothingToUndo, q_NothingToUndo, kx_NothingToUndo, sb_NothingToUndo, ty_NothingToUndo⟩
  have kit8 : ∀ i j, i < 8 → j < 8 → PySem.W.kitOne K (.ref (cx i)) (.ref (cx j)) = some (decide (i = j)) := by
    intro i j hi hj
    rcases (by omega : i = 0 ∨ i = 1 ∨ i = 2 ∨ i = 3 ∨ i = 4 ∨ i = 5 ∨ i = 6 ∨ i = 7) with rfl | rfl | rfl | rfl | rfl | rfl | rfl | rfl <;> rcases (by omega : j = 0 ∨ j = 1 ∨ j = 2 ∨ j = 3 ∨ j = 4 ∨ j = 5 ∨ j = 6 ∨ j = 7) with rfl | rfl | rfl | rfl | rfl | rfl | rfl | rfl
    · exact ko_0_0
    · exact ko_0_1
    · exact ko_0_2
    · exact ko_0_3
    · exact ko_0_4
    · exact ko_0_5
    · exact ko_0_6
    · exact ko_0_7
    · exact ko_1_0
    · exact ko_1_1
    · exact ko_1_2
    · exact ko_1_3
    · exact ko_1_4
    · exact ko_1_5
    · exact ko_1_6
    · exact ko_1_7
    · exact ko_2_0
    · exact ko_2_1
    · exact ko_2_2
    · exact ko_2_3
    · exact ko_2_4
    · exact ko_2_5
    · exact ko_2_6
    · exact ko_2_7
    · exact ko_3_0
    · exact ko_3_1
    · exact ko_3_2
    · exact ko_3_3
    · exact ko_3_4
    · exact ko_3_5
    · exact ko_3_6
    · exact ko_3_7
    · exact ko_4_0
    · exact ko_4_1
    · exact ko_4_2
    · exact ko_4_3
    · exact ko_4_4
    · exact ko_4_5
    · exact ko_4_6
    · exact ko_4_7
    · exact ko_5_0
    · exact ko_5_1
    · exact ko_5_2
    · exact ko_5_3
    · exact ko_5_4
    · exact ko_5_5
    · exact ko_5_6
    · exact ko_5_7
    · exact ko_6_0
    · exact ko_6_1
    · exact ko_6_2
    · exact ko_6_3
    · exact ko_6_4
    · exact ko_6_5
    · exact ko_6_6
    · exact ko_6_7
    · exact ko_7_0
    · exact ko_7_1
    · exact ko_7_2
    · exact ko_7_3
    · exact ko_7_4
    · exact ko_7_5
    · exact ko_7_6
    · exact ko_7_7
  have X8 : Ex8 K mg cx := ⟨PySem.W.mg_of X G g_InvalidFamily, PySem.W.mg_of X G g_InvalidRule, PySem.W.mg_of X G g_InvalidWorths, PySem.W.mg_of X G g_InvalidShare, PySem.W.mg_of X G g_InvalidThings, PySem.W.mg_of X G g_InvalidText, PySem.W.mg_of X G g_TooMany, PySem.W.mg_of X G g_NothingToUndo, PySem.W.mg_none_of X G zVE, by
      intro i hi
      rcases (by omega : i = 0 ∨ i = 1 ∨ i = 2 ∨ i = 3 ∨ i = 4 ∨ i = 5 ∨ i = 6 ∨ i = 7) with rfl | rfl | rfl | rfl | rfl | rfl | rfl | rfl
      · exact ⟨xg_InvalidFamily, xk_InvalidFamily, sb_InvalidFamily, xd_InvalidFamily, xa_InvalidFamily, xN, xT, xm_InvalidFamily⟩
      · exact ⟨xg_InvalidRule, xk_InvalidRule, sb_InvalidRule, xd_InvalidRule, xa_InvalidRule, xN, xT, xm_InvalidRule⟩
      · exact ⟨xg_InvalidWorths, xk_InvalidWorths, sb_InvalidWorths, xd_InvalidWorths, xa_InvalidWorths, xN, xT, xm_InvalidWorths⟩
      · exact ⟨xg_InvalidShare, xk_InvalidShare, sb_InvalidShare, xd_InvalidShare, xa_InvalidShare, xN, xT, xm_InvalidShare⟩
      · exact ⟨xg_InvalidThings, xk_InvalidThings, sb_InvalidThings, xd_InvalidThings, xa_InvalidThings, xN, xT, xm_InvalidThings⟩
      · exact ⟨xg_InvalidText, xk_InvalidText, sb_InvalidText, xd_InvalidText, xa_InvalidText, xN, xT, xm_InvalidText⟩
      · exact ⟨xg_TooMany, xk_TooMany, sb_TooMany, xd_TooMany, xa_TooMany, xN, xT, xm_TooMany⟩
      · exact ⟨xg_NothingToUndo, xk_NothingToUndo, sb_NothingToUndo, xd_NothingToUndo, xa_NothingToUndo, xN, xT, xm_NothingToUndo⟩, kit8, by
      intro i hi
      rcases (by omega : i = 0 ∨ i = 1 ∨ i = 2 ∨ i = 3 ∨ i = 4 ∨ i = 5 ∨ i = 6 ∨ i = 7) with rfl | rfl | rfl | rfl | rfl | rfl | rfl | rfl
      · exact kv_InvalidFamily
      · exact kv_InvalidRule
      · exact kv_InvalidWorths
      · exact kv_InvalidShare
      · exact kv_InvalidThings
      · exact kv_InvalidText
      · exact kv_TooMany
      · exact kv_NothingToUndo⟩
  have em8 : ∀ i, i < 8 → PySem.W.exmOne K (.ref (cx i)) (.ref C_PickError) = some true := by
      intro i hi
      rcases (by omega : i = 0 ∨ i = 1 ∨ i = 2 ∨ i = 3 ∨ i = 4 ∨ i = 5 ∨ i = 6 ∨ i = 7) with rfl | rfl | rfl | rfl | rfl | rfl | rfl | rfl
      · exact em_InvalidFamily
      · exact em_InvalidRule
      · exact em_InvalidWorths
      · exact em_InvalidShare
      · exact em_InvalidThings
      · exact em_InvalidText
      · exact em_TooMany
      · exact em_NothingToUndo
  have mPickError := PySem.W.mg_of X G g_PickError
  have mMOST_THINGS := PySem.W.mg_of X G n_MOST_THINGS
  have B : Blt mg := ⟨PySem.W.mg_none_of X G z_all, PySem.W.mg_none_of X G z_any, PySem.W.mg_none_of X G z_sorted, PySem.W.mg_none_of X G z_set, PySem.W.mg_none_of X G z_list, PySem.W.mg_none_of X G z_tuple, PySem.W.mg_none_of X G z_isinstance, PySem.W.mg_none_of X G z_int, PySem.W.mg_none_of X G z_bool, PySem.W.mg_none_of X G z_str, PySem.W.mg_none_of X G z_range, PySem.W.mg_none_of X G z_len, PySem.W.mg_none_of X G z_sum, PySem.W.mg_none_of X G z_min, PySem.W.mg_none_of X G z_max, PySem.W.mg_none_of X G z_enumerate, PySem.W.mg_none_of X G z_abs⟩
  refine ⟨PySem.W.fnOf "law" "law" (defArgs s_law) (defBody s_law) (defScope s_law) .none kV_law dc_law pm_law an_law (.ref c_law_) ct_law, [(c_law_end_, P_law_end), (c_law_, P_law)], spLaw9 K [(P_law_end, ("_law_end.<locals>." : Str) ++ "<lambda>"), (P_law, ("law.<locals>." : Str) ++ "<lambda>")], (fun p hp => by
      simp only [List.mem_cons, List.not_mem_nil, or_false] at hp
      rcases hp with rfl | rfl
      · exact hT_law_end
      · exact hT_law), (fun p hp => by
      simp only [List.mem_cons, List.not_mem_nil, or_false] at hp
      rcases hp with rfl | rfl
      · exact nT_law_end
      · exact nT_law), (fun p hp => by
      simp only [List.mem_cons, List.not_mem_nil, or_false] at hp
      rcases hp with rfl | rfl
      · exact PySem.W.codeHd_of_K X hC_law_end
      · exact PySem.W.codeHd_of_K X hC_law), fun s u => .of_eq rfl, fun H a ns hl _ ht hS => ⟨a, ns, rfl, hS, hl, fun x hx => by
      simp only [List.mem_cons, List.not_mem_nil, or_false] at hx
      rcases hx with rfl | rfl
      · exact ht (c_law_end_, P_law_end) (by simp)
      · exact ht (c_law_, P_law) (by simp), fun _ => rfl⟩, fun base _ _ tb => ?_⟩
  · have tb_law := tb (c_law_, P_law) (by simp)
    have mT_law : (P_law, ("law.<locals>." : Str) ++ "<lambda>") ∈ ([(P_law_end, ("_law_end.<locals>." : Str) ++ "<lambda>"), (P_law, ("law.<locals>." : Str) ++ "<lambda>")] : Tbs) := by simp
    have hu_law : ∀ p ∈ ([(P_law_end, ("_law_end.<locals>." : Str) ++ "<lambda>"), (P_law, ("law.<locals>." : Str) ++ "<lambda>")] : Tbs), p.1 = P_law → p.2 = ("law.<locals>." : Str) ++ "<lambda>" := by
      intro p hp e
      simp only [List.mem_cons, List.not_mem_nil, or_false] at hp
      rcases hp with rfl | rfl
      · exact absurd e (beq_eq_false_iff_ne.mp ne_law_end_law)
      · rfl
    have tb_law_end := tb (c_law_end_, P_law_end) (by simp)
    have mT_law_end : (P_law_end, ("_law_end.<locals>." : Str) ++ "<lambda>") ∈ ([(P_law_end, ("_law_end.<locals>." : Str) ++ "<lambda>"), (P_law, ("law.<locals>." : Str) ++ "<lambda>")] : Tbs) := by simp
    have hu_law_end : ∀ p ∈ ([(P_law_end, ("_law_end.<locals>." : Str) ++ "<lambda>"), (P_law, ("law.<locals>." : Str) ++ "<lambda>")] : Tbs), p.1 = P_law_end → p.2 = ("_law_end.<locals>." : Str) ++ "<lambda>" := by
      intro p hp e
      simp only [List.mem_cons, List.not_mem_nil, or_false] at hp
      rcases hp with rfl | rfl
      · rfl
      · exact absurd e.symm (beq_eq_false_iff_ne.mp ne_law_end_law)
    have g_is_whole : FnOk l.prog w K mg base CX0 1 f_is_whole_ _ ["value", "low", "high"] (spR K R_is_whole) := ok_is_whole F_is_whole B
    have f_is_whole : Fn l.prog w K mg base "is_whole" 1 (spR K R_is_whole) := fn_mk F_is_whole g_is_whole m_is_whole b_is_whole
    have g_within : FnOk l.prog w K mg base CX0 1 f_within_ _ ["one", "other"] (spR K R_within) := ok_within F_within B
    have f_within : Fn l.prog w K mg base "within" 1 (spR K R_within) := fn_mk F_within g_within m_within b_within
    have g_may_be : FnOk l.prog w K mg base CX0 2 f_may_be_ _ ["family", "some"] (spR K R_may_be) := ok_may_be F_may_be B f_within
    have f_may_be : Fn l.prog w K mg base "may_be" 2 (spR K R_may_be) := fn_mk F_may_be g_may_be m_may_be b_may_be
    have g_greatest_in : FnOk l.prog w K mg base CX0 2 f_greatest_in_ _ ["sets"] (spR K R_greatest_in) := ok_greatest_in F_greatest_in B f_within
    have f_greatest_in : Fn l.prog w K mg base "greatest_in" 2 (spR K R_greatest_in) := fn_mk F_greatest_in g_greatest_in m_greatest_in b_greatest_in
    have g_is_set : FnOk l.prog w K mg base CX0 2 f_is_set_ _ ["value", "things"] (spR K R_is_set) := ok_is_set F_is_set B f_is_whole
    have f_is_set : Fn l.prog w K mg base "is_set" 2 (spR K R_is_set) := fn_mk F_is_set g_is_set m_is_set b_is_set
    have g_is_family : FnOk l.prog w K mg base CX0 3 f_is_family_ _ ["value"] (spR K R_is_family) := ok_is_family F_is_family B ⟨_, mMOST_THINGS⟩ f_is_whole f_is_set f_greatest_in
    have f_is_family : Fn l.prog w K mg base "is_family" 3 (spR K R_is_family) := fn_mk F_is_family g_is_family m_is_family b_is_family
    have g_need_family : FnOk l.prog w K mg base (L2N.CX l.prog w) 4 f_need_family_ _ ["family"] (spNeedF K (cx 0)) := ok_need_familyX F_need_family f_is_family E_InvalidFamily
    have f_need_family : FnX l.prog w K mg base "need_family" 4 (spNeedF K (cx 0)) := fnX_mk F_need_family g_need_family m_need_family b_need_family
    have g_law_drawn : FnOk l.prog w K mg base CX0 1 f_law_drawn_ _ ["cell", "k"] (spR K R_law_drawn) := ok_law_drawn F_law_drawn
    have f_law_drawn : Fn l.prog w K mg base "_law_drawn" 1 (spR K R_law_drawn) := fn_mk F_law_drawn g_law_drawn m_law_drawn b_law_drawn
    have g_law_roll : FnOk l.prog w K mg base CX0 2 f_law_roll_ _ ["dice", "many"] (spRoll) := ok_law_roll F_law_roll f_law_drawn
    have f_law_roll : Fn l.prog w K mg base "_law_roll" 2 (spRoll) := fn_mk F_law_roll g_law_roll m_law_roll b_law_roll
    have g_law_cell : FnOk l.prog w K mg base CX0 1 f_law_cell_ _ ["script", "k"] (spCell K) := ok_law_cell F_law_cell B
    have f_law_cell : Fn l.prog w K mg base "_law_cell" 1 (spCell K) := fn_mk F_law_cell g_law_cell m_law_cell b_law_cell
    have g_law_rounds : FnOk l.prog w K mg base CX0 2 f_law_rounds_ _ ["script", "most"] (spRounds K) := ok_law_rounds F_law_rounds B g_law_cell m_law_cell k_law_cell b_law_cell
    have f_law_rounds : Fn l.prog w K mg base "_law_rounds" 2 (spRounds K) := fn_mk F_law_rounds g_law_rounds m_law_rounds b_law_rounds
    have g_law_inside : FnOk l.prog w K mg base CX0 1 f_law_inside_ _ ["one", "other"] (spR K R_within) := ok_law_inside F_law_inside B
    have f_law_inside : Fn l.prog w K mg base "_law_inside" 1 (spR K R_within) := fn_mk F_law_inside g_law_inside m_law_inside b_law_inside
    have g_law_top : FnOk l.prog w K mg base CX0 2 f_law_top_ _ ["sets"] (spR K R_law_top) := ok_law_top F_law_top B f_law_inside
    have f_law_top : Fn l.prog w K mg base "_law_top" 2 (spR K R_law_top) := fn_mk F_law_top g_law_top m_law_top b_law_top
    have g_law_family : FnOk l.prog w K mg base CX0 3 f_law_family_ _ ["dice", "many"] (spFam K) := ok_law_family F_law_family B f_law_roll f_law_top
    have f_law_family : Fn l.prog w K mg base "_law_family" 3 (spFam K) := fn_mk F_law_family g_law_family m_law_family b_law_family
    have g_law_may : FnOk l.prog w K mg base CX0 2 f_law_may_ _ ["family", "some"] (spR K R_may_be) := ok_law_may F_law_may B f_law_inside
    have f_law_may : Fn l.prog w K mg base "_law_may" 2 (spR K R_may_be) := fn_mk F_law_may g_law_may m_law_may b_law_may
    have h_law_term : FnT l.prog w K mg base 1 f_law_term_ _ ["e"] (spTerm K cx) := ok_law_term F_law_term B X8
    have Ft : ToldTx l.prog w K mg base cx f_law_told_ C_PickError f_law_term_ _ _ := ⟨F_law_told, b_law_told, m_law_told, mPickError, em8, h_law_term, m_law_term, k_law_term, b_law_term⟩
    have g_law_free : FnOk l.prog w K mg base CX0 3 f_law_free_ _ ["family", "now"] (spR K R_law_free) := ok_law_free F_law_free B f_law_may
    have f_law_free : Fn l.prog w K mg base "_law_free" 3 (spR K R_law_free) := fn_mk F_law_free g_law_free m_law_free b_law_free
    have g_m_picked : FnOk l.prog w K mg base CX0 1 f_m_picked_ _ ["self"] (spB K C R_picked) := ok_picked F_m_picked T
    have f_m_picked : FnM l.prog w K mg base C "picked" 1 (spB K C R_picked) := ⟨_, _, _, _, g_m_picked, ⟨a_m_picked, i_m_picked, k_m_picked⟩, b_m_picked, fun _ _ _ => pass0⟩
    have g_m_free : FnOk l.prog w K mg base CX0 3 f_m_free_ _ ["self"] (spB K C R_free) := ok_free F_m_free T B f_m_picked f_may_be
    have f_m_free : FnM l.prog w K mg base C "free" 3 (spB K C R_free) := ⟨_, _, _, _, g_m_free, ⟨a_m_free, i_m_free, k_m_free⟩, b_m_free, fun _ _ _ => pass0⟩
    have g_m_take : FnOk l.prog w K mg base (L2N.CX l.prog w) 4 f_m_take_ _ ["self", "thing"] (spTakeX K C (cx 4)) := ok_takeX F_m_take T B f_is_whole f_m_picked f_m_free E_InvalidThings
    have f_m_take : FnMX l.prog w K mg base C "take" 4 (spTakeX K C (cx 4)) := ⟨_, _, _, g_m_take, ⟨a_m_take, i_m_take, k_m_take⟩, b_m_take⟩
    have g_m_leave : FnOk l.prog w K mg base (L2N.CX l.prog w) 2 f_m_leave_ _ ["self", "thing"] (spLeaveX K C (cx 4)) := ok_leaveX F_m_leave T B f_is_whole f_m_picked E_InvalidThings
    have f_m_leave : FnMX l.prog w K mg base C "leave" 2 (spLeaveX K C (cx 4)) := ⟨_, _, _, g_m_leave, ⟨a_m_leave, i_m_leave, k_m_leave⟩, b_m_leave⟩
    have g_m_undo : FnOk l.prog w K mg base (L2N.CX l.prog w) 2 f_m_undo_ _ ["self"] (spUndoX K C (cx 7)) := ok_undoX F_m_undo T B f_m_picked E_NothingToUndo
    have f_m_undo : FnMX l.prog w K mg base C "undo" 2 (spUndoX K C (cx 7)) := ⟨_, _, _, g_m_undo, ⟨a_m_undo, i_m_undo, k_m_undo⟩, b_m_undo⟩
    have g_m_redo : FnOk l.prog w K mg base (L2N.CX l.prog w) 2 f_m_redo_ _ ["self"] (spRedoX K C (cx 7)) := ok_redoX F_m_redo T B f_m_picked E_NothingToUndo
    have f_m_redo : FnMX l.prog w K mg base C "redo" 2 (spRedoX K C (cx 7)) := ⟨_, _, _, g_m_redo, ⟨a_m_redo, i_m_redo, k_m_redo⟩, b_m_redo⟩
    have Mb : MkB l.prog w K mg base C (cx 0) := ⟨_, _, ⟨mkB, a_m_init, i_m_init, kcB⟩, ok_initX F_m_init T f_need_family, b_m_init⟩
    have Eo : EqO l.prog w K mg base C := ⟨⟨_, _, ok_eq9 F_m_eq T Y B yI, a_m_eq, i_m_eq, b_m_eq⟩, yF⟩
    have Lo : LenO l.prog w K mg base C := ⟨_, _, ok_len F_m_len T B f_m_picked, a_m_len, i_m_len, b_m_len⟩
    have g_law_end : FnOk l.prog w K mg base CX0 9 f_law_end_ _ ["basket", "family", "rows"] (spEnd9 K C ([(P_law_end, ("_law_end.<locals>." : Str) ++ "<lambda>"), (P_law, ("law.<locals>." : Str) ++ "<lambda>")] : Tbs)) := ok_law_end l_law_end c_law_end B T Ft tb_law_end mT_law_end hu_law_end f_m_take f_m_leave Mb Eo
    have f_law_end : Fn l.prog w K mg base "_law_end" 9 (spEnd9 K C ([(P_law_end, ("_law_end.<locals>." : Str) ++ "<lambda>"), (P_law, ("law.<locals>." : Str) ++ "<lambda>")] : Tbs)) := fn_mk F_law_end g_law_end m_law_end b_law_end
    exact ok_law9 l_law c_law (⟨B, T, Ft, tb_law, mT_law, hu_law, f_law_roll, f_law_family, f_law_rounds, f_law_free, f_law_end, f_m_picked, f_m_free, f_m_take, f_m_leave, f_m_undo, f_m_redo, Mb, Lo⟩ : L9 _ w K mg base C cx _ _ _ _ _ c_law_ P_law _)

end G9
open PySem PySem.W PyProof.Rows
set_option maxHeartbeats 0 in
theorem PySem.Challenge.cw_pickcones_k09_whole_baskets_holds : PySem.Challenge.rw_pickcones_k09_whole_baskets.Holds := by
  w_on; o_law; k_head; (case hw => w_witness2)
  k_fill
  refine LamX.walk_ofTs (l := PySem.Challenge.rw_pickcones_k09_whole_baskets) (n := 63) (k := 10) (x := "script") (CX := fun _ => L2.CX0) rfl (by decide) rfl ⟨rfl, by decide, by decide⟩ (fun w h Y => PySem.W.km_in_of Y) ?F (fun _ _ _ _ _ z => z)
  case F =>
    intro w mg fa h Y KX G hmg
    refine' G9.all_mk KX G hmg ?a_is_whole ?l_is_whole ?c_is_whole ?k_is_whole ?a_within ?l_within ?c_within ?k_within ?a_may_be ?l_may_be ?c_may_be ?k_may_be ?a_greatest_in ?l_greatest_in ?c_greatest_in ?k_greatest_in ?a_is_set ?l_is_set ?c_is_set ?k_is_set ?a_is_family ?l_is_family ?c_is_family ?k_is_family ?a_need_family ?l_need_family ?c_need_family ?k_need_family ?a_law_drawn ?l_law_drawn ?c_law_drawn ?k_law_drawn ?a_law_roll ?l_law_roll ?c_law_roll ?k_law_roll ?a_law_cell ?l_law_cell ?c_law_cell ?k_law_cell ?a_law_rounds ?l_law_rounds ?c_law_rounds ?k_law_rounds ?a_law_inside ?l_law_inside ?c_law_inside ?k_law_inside ?a_law_top ?l_law_top ?c_law_top ?k_law_top ?a_law_family ?l_law_family ?c_law_family ?k_law_family ?a_law_may ?l_law_may ?c_law_may ?k_law_may ?a_law_term ?l_law_term ?c_law_term ?k_law_term ?a_law_told ?l_law_told ?c_law_told ?k_law_told ?a_law_free ?l_law_free ?c_law_free ?k_law_free ?a_law_end ?l_law_end ?c_law_end ?k_law_end ?aC ?pg ?hd ?po ?sa ?mkB ?kcB ?nF ?nR ?nU ?yA ?yN ?yT ?yM ?yK ?yI ?yF ?a_m_picked ?i_m_picked ?l_m_picked ?c_m_picked ?k_m_picked ?a_m_free ?i_m_free ?l_m_free ?c_m_free ?k_m_free ?a_m_take ?i_m_take ?l_m_take ?c_m_take ?k_m_take ?a_m_leave ?i_m_leave ?l_m_leave ?c_m_leave ?k_m_leave ?a_m_undo ?i_m_undo ?l_m_undo ?c_m_undo ?k_m_undo ?a_m_redo ?i_m_redo ?l_m_redo ?c_m_redo ?k_m_redo ?a_m_init ?i_m_init ?l_m_init ?c_m_init ?k_m_init ?a_m_eq ?i_m_eq ?l_m_eq ?c_m_eq ?k_m_eq ?a_m_len ?i_m_len ?l_m_len ?c_m_len ?k_m_len ?g_InvalidFamily ?g_InvalidRule ?g_InvalidWorths ?g_InvalidShare ?g_InvalidThings ?g_InvalidText ?g_TooMany ?g_NothingToUndo ?q_InvalidFamily ?kx_InvalidFamily ?sb_InvalidFamily ?ty_InvalidFamily ?xg_InvalidFamily ?xk_InvalidFamily ?xd_InvalidFamily ?xa_InvalidFamily ?xm_InvalidFamily ?em_InvalidFamily ?kv_InvalidFamily ?ko_0_0 ?ko_0_1 ?ko_0_2 ?ko_0_3 ?ko_0_4 ?ko_0_5 ?ko_0_6 ?ko_0_7 ?q_InvalidRule ?kx_InvalidRule ?sb_InvalidRule ?ty_InvalidRule ?xg_InvalidRule ?xk_InvalidRule ?xd_InvalidRule ?xa_InvalidRule ?xm_InvalidRule ?em_InvalidRule ?kv_InvalidRule ?ko_1_0 ?ko_1_1 ?ko_1_2 ?ko_1_3 ?ko_1_4 ?ko_1_5 ?ko_1_6 ?ko_1_7 ?q_InvalidWorths ?kx_InvalidWorths ?sb_InvalidWorths ?ty_InvalidWorths ?xg_InvalidWorths ?xk_InvalidWorths ?xd_InvalidWorths ?xa_InvalidWorths ?xm_InvalidWorths ?em_InvalidWorths ?kv_InvalidWorths ?ko_2_0 ?ko_2_1 ?ko_2_2 ?ko_2_3 ?ko_2_4 ?ko_2_5 ?ko_2_6 ?ko_2_7 ?q_InvalidShare ?kx_InvalidShare ?sb_InvalidShare ?ty_InvalidShare ?xg_InvalidShare ?xk_InvalidShare ?xd_InvalidShare ?xa_InvalidShare ?xm_InvalidShare ?em_InvalidShare ?kv_InvalidShare ?ko_3_0 ?ko_3_1 ?ko_3_2 ?ko_3_3 ?ko_3_4 ?ko_3_5 ?ko_3_6 ?ko_3_7 ?q_InvalidThings ?kx_InvalidThings ?sb_InvalidThings ?ty_InvalidThings ?xg_InvalidThings ?xk_InvalidThings ?xd_InvalidThings ?xa_InvalidThings ?xm_InvalidThings ?em_InvalidThings ?kv_InvalidThings ?ko_4_0 ?ko_4_1 ?ko_4_2 ?ko_4_3 ?ko_4_4 ?ko_4_5 ?ko_4_6 ?ko_4_7 ?q_InvalidText ?kx_InvalidText ?sb_InvalidText ?ty_InvalidText ?xg_InvalidText ?xk_InvalidText ?xd_InvalidText ?xa_InvalidText ?xm_InvalidText ?em_InvalidText ?kv_InvalidText ?ko_5_0 ?ko_5_1 ?ko_5_2 ?ko_5_3 ?ko_5_4 ?ko_5_5 ?ko_5_6 ?ko_5_7 ?q_TooMany ?kx_TooMany ?sb_TooMany ?ty_TooMany ?xg_TooMany ?xk_TooMany ?xd_TooMany ?xa_TooMany ?xm_TooMany ?em_TooMany ?kv_TooMany ?ko_6_0 ?ko_6_1 ?ko_6_2 ?ko_6_3 ?ko_6_4 ?ko_6_5 ?ko_6_6 ?ko_6_7 ?q_NothingToUndo ?kx_NothingToUndo ?sb_NothingToUndo ?ty_NothingToUndo ?xg_NothingToUndo ?xk_NothingToUndo ?xd_NothingToUndo ?xa_NothingToUndo ?xm_NothingToUndo ?em_NothingToUndo ?kv_NothingToUndo ?ko_7_0 ?ko_7_1 ?ko_7_2 ?ko_7_3 ?ko_7_4 ?ko_7_5 ?ko_7_6 ?ko_7_7 ?zVE ?g_PickError ?n_MOST_THINGS ?xN ?xT ?z_all ?z_any ?z_sorted ?z_set ?z_list ?z_tuple ?z_isinstance ?z_int ?z_bool ?z_str ?z_range ?z_len ?z_sum ?z_min ?z_max ?z_enumerate ?z_abs ?a_law ?l_law ?c_law ?k_law ?hT_law_end ?nT_law_end ?hC_law_end ?hT_law ?nT_law ?hC_law ?ne_law_end_law
    (case a_is_whole => k_is)
    (case l_is_whole => k_is)
    (case c_is_whole => k_is)
    (case k_is_whole => k_is)
    (case a_within => k_is)
    (case l_within => k_is)
    (case c_within => k_is)
    (case k_within => k_is)
    (case a_may_be => k_is)
    (case l_may_be => k_is)
    (case c_may_be => k_is)
    (case k_may_be => k_is)
    (case a_greatest_in => k_is)
    (case l_greatest_in => k_is)
    (case c_greatest_in => k_is)
    (case k_greatest_in => k_is)
    (case a_is_set => k_is)
    (case l_is_set => k_is)
    (case c_is_set => k_is)
    (case k_is_set => k_is)
    (case a_is_family => k_is)
    (case l_is_family => k_is)
    (case c_is_family => k_is)
    (case k_is_family => k_is)
    (case a_need_family => k_is)
    (case l_need_family => k_is)
    (case c_need_family => k_is)
    (case k_need_family => k_is)
    (case a_law_drawn => k_is)
    (case l_law_drawn => k_is)
    (case c_law_drawn => k_is)
    (case k_law_drawn => k_is)
    (case a_law_roll => k_is)
    (case l_law_roll => k_is)
    (case c_law_roll => k_is)
    (case k_law_roll => k_is)
    (case a_law_cell => k_is)
    (case l_law_cell => k_is)
    (case c_law_cell => k_is)
    (case k_law_cell => k_is)
    (case a_law_rounds => k_is)
    (case l_law_rounds => k_is)
    (case c_law_rounds => k_is)
    (case k_law_rounds => k_is)
    (case a_law_inside => k_is)
    (case l_law_inside => k_is)
    (case c_law_inside => k_is)
    (case k_law_inside => k_is)
    (case a_law_top => k_is)
    (case l_law_top => k_is)
    (case c_law_top => k_is)
    (case k_law_top => k_is)
    (case a_law_family => k_is)
    (case l_law_family => k_is)
    (case c_law_family => k_is)
    (case k_law_family => k_is)
    (case a_law_may => k_is)
    (case l_law_may => k_is)
    (case c_law_may => k_is)
    (case k_law_may => k_is)
    (case a_law_term => k_is)
    (case l_law_term => k_is)
    (case c_law_term => k_is)
    (case k_law_term => k_is)
    (case a_law_told => k_is)
    (case l_law_told => k_is)
    (case c_law_told => k_is)
    (case k_law_told => k_is)
    (case a_law_free => k_is)
    (case l_law_free => k_is)
    (case c_law_free => k_is)
    (case k_law_free => k_is)
    (case a_law_end => k_is)
    (case l_law_end => k_is)
    (case c_law_end => k_is)
    (case k_law_end => k_is)
    (case aC => k_is)
    (case pg => k_is)
    (case hd => k_is)
    (case po => k_is)
    (case sa => k_is)
    (case mkB => k_is)
    (case kcB => k_is)
    (case nF => k_is)
    (case nR => k_is)
    (case nU => k_is)
    (case yA => first | k_is | kernel_rfl)
    (case yN => first | k_is | kernel_rfl)
    (case yT => first | k_is | kernel_rfl)
    (case yM => first | k_is | kernel_rfl)
    (case yK => first | k_is | kernel_rfl)
    (case yI => first | k_is | kernel_rfl)
    (case yF => first | k_is | kernel_rfl)
    (case a_m_picked => k_is)
    (case i_m_picked => k_is)
    (case l_m_picked => k_is)
    (case c_m_picked => k_is)
    (case k_m_picked => k_is)
    (case a_m_free => k_is)
    (case i_m_free => k_is)
    (case l_m_free => k_is)
    (case c_m_free => k_is)
    (case k_m_free => k_is)
    (case a_m_take => k_is)
    (case i_m_take => k_is)
    (case l_m_take => k_is)
    (case c_m_take => k_is)
    (case k_m_take => k_is)
    (case a_m_leave => k_is)
    (case i_m_leave => k_is)
    (case l_m_leave => k_is)
    (case c_m_leave => k_is)
    (case k_m_leave => k_is)
    (case a_m_undo => k_is)
    (case i_m_undo => k_is)
    (case l_m_undo => k_is)
    (case c_m_undo => k_is)
    (case k_m_undo => k_is)
    (case a_m_redo => k_is)
    (case i_m_redo => k_is)
    (case l_m_redo => k_is)
    (case c_m_redo => k_is)
    (case k_m_redo => k_is)
    (case a_m_init => k_is)
    (case i_m_init => k_is)
    (case l_m_init => k_is)
    (case c_m_init => k_is)
    (case k_m_init => k_is)
    (case a_m_eq => k_is)
    (case i_m_eq => k_is)
    (case l_m_eq => k_is)
    (case c_m_eq => k_is)
    (case k_m_eq => k_is)
    (case a_m_len => k_is)
    (case i_m_len => k_is)
    (case l_m_len => k_is)
    (case c_m_len => k_is)
    (case k_m_len => k_is)
    (case g_InvalidFamily => k_is)
    (case g_InvalidRule => k_is)
    (case g_InvalidWorths => k_is)
    (case g_InvalidShare => k_is)
    (case g_InvalidThings => k_is)
    (case g_InvalidText => k_is)
    (case g_TooMany => k_is)
    (case g_NothingToUndo => k_is)
    (case q_InvalidFamily => first | k_is | kernel_rfl)
    (case kx_InvalidFamily => k_is)
    (case sb_InvalidFamily => first | k_is | kernel_rfl)
    (case ty_InvalidFamily => first | k_is | kernel_rfl)
    (case xg_InvalidFamily => first | k_is | kernel_rfl)
    (case xk_InvalidFamily => first | k_is | kernel_rfl)
    (case xd_InvalidFamily => first | k_is | kernel_rfl)
    (case xa_InvalidFamily => first | k_is | kernel_rfl)
    (case xm_InvalidFamily => first | k_is | kernel_rfl)
    (case em_InvalidFamily => first | k_is | kernel_rfl)
    (case kv_InvalidFamily => first | k_is | kernel_rfl)
    (case ko_0_0 => first | k_is | kernel_rfl)
    (case ko_0_1 => first | k_is | kernel_rfl)
    (case ko_0_2 => first | k_is | kernel_rfl)
    (case ko_0_3 => first | k_is | kernel_rfl)
    (case ko_0_4 => first | k_is | kernel_rfl)
    (case ko_0_5 => first | k_is | kernel_rfl)
    (case ko_0_6 => first | k_is | kernel_rfl)
    (case ko_0_7 => first | k_is | kernel_rfl)
    (case q_InvalidRule => first | k_is | kernel_rfl)
    (case kx_InvalidRule => k_is)
    (case sb_InvalidRule => first | k_is | kernel_rfl)
    (case ty_InvalidRule => first | k_is | kernel_rfl)
    (case xg_InvalidRule => first | k_is | kernel_rfl)
    (case xk_InvalidRule => first | k_is | kernel_rfl)
    (case xd_InvalidRule => first | k_is | kernel_rfl)
    (case xa_InvalidRule => first | k_is | kernel_rfl)
    (case xm_InvalidRule => first | k_is | kernel_rfl)
    (case em_InvalidRule => first | k_is | kernel_rfl)
    (case kv_InvalidRule => first | k_is | kernel_rfl)
    (case ko_1_0 => first | k_is | kernel_rfl)
    (case ko_1_1 => first | k_is | kernel_rfl)
    (case ko_1_2 => first | k_is | kernel_rfl)
    (case ko_1_3 => first | k_is | kernel_rfl)
    (case ko_1_4 => first | k_is | kernel_rfl)
    (case ko_1_5 => first | k_is | kernel_rfl)
    (case ko_1_6 => first | k_is | kernel_rfl)
    (case ko_1_7 => first | k_is | kernel_rfl)
    (case q_InvalidWorths => first | k_is | kernel_rfl)
    (case kx_InvalidWorths => k_is)
    (case sb_InvalidWorths => first | k_is | kernel_rfl)
    (case ty_InvalidWorths => first | k_is | kernel_rfl)
    (case xg_InvalidWorths => first | k_is | kernel_rfl)
    (case xk_InvalidWorths => first | k_is | kernel_rfl)
    (case xd_InvalidWorths => first | k_is | kernel_rfl)
    (case xa_InvalidWorths => first | k_is | kernel_rfl)
    (case xm_InvalidWorths => first | k_is | kernel_rfl)
    (case em_InvalidWorths => first | k_is | kernel_rfl)
    (case kv_InvalidWorths => first | k_is | kernel_rfl)
    (case ko_2_0 => first | k_is | kernel_rfl)
    (case ko_2_1 => first | k_is | kernel_rfl)
    (case ko_2_2 => first | k_is | kernel_rfl)
    (case ko_2_3 => first | k_is | kernel_rfl)
    (case ko_2_4 => first | k_is | kernel_rfl)
    (case ko_2_5 => first | k_is | kernel_rfl)
    (case ko_2_6 => first | k_is | kernel_rfl)
    (case ko_2_7 => first | k_is | kernel_rfl)
    (case q_InvalidShare => first | k_is | kernel_rfl)
    (case kx_InvalidShare => k_is)
    (case sb_InvalidShare => first | k_is | kernel_rfl)
    (case ty_InvalidShare => first | k_is | kernel_rfl)
    (case xg_InvalidShare => first | k_is | kernel_rfl)
    (case xk_InvalidShare => first | k_is | kernel_rfl)
    (case xd_InvalidShare => first | k_is | kernel_rfl)
    (case xa_InvalidShare => first | k_is | kernel_rfl)
    (case xm_InvalidShare => first | k_is | kernel_rfl)
    (case em_InvalidShare => first | k_is | kernel_rfl)
    (case kv_InvalidShare => first | k_is | kernel_rfl)
    (case ko_3_0 => first | k_is | kernel_rfl)
    (case ko_3_1 => first | k_is | kernel_rfl)
    (case ko_3_2 => first | k_is | kernel_rfl)
    (case ko_3_3 => first | k_is | kernel_rfl)
    (case ko_3_4 => first | k_is | kernel_rfl)
    (case ko_3_5 => first | k_is | kernel_rfl)
    (case ko_3_6 => first | k_is | kernel_rfl)
    (case ko_3_7 => first | k_is | kernel_rfl)
    (case q_InvalidThings => first | k_is | kernel_rfl)
    (case kx_InvalidThings => k_is)
    (case sb_InvalidThings => first | k_is | kernel_rfl)
    (case ty_InvalidThings => first | k_is | kernel_rfl)
    (case xg_InvalidThings => first | k_is | kernel_rfl)
    (case xk_InvalidThings => first | k_is | kernel_rfl)
    (case xd_InvalidThings => first | k_is | kernel_rfl)
    (case xa_InvalidThings => first | k_is | kernel_rfl)
    (case xm_InvalidThings => first | k_is | kernel_rfl)
    (case em_InvalidThings => first | k_is | kernel_rfl)
    (case kv_InvalidThings => first | k_is | kernel_rfl)
    (case ko_4_0 => first | k_is | kernel_rfl)
    (case ko_4_1 => first | k_is | kernel_rfl)
    (case ko_4_2 => first | k_is | kernel_rfl)
    (case ko_4_3 => first | k_is | kernel_rfl)
    (case ko_4_4 => first | k_is | kernel_rfl)
    (case ko_4_5 => first | k_is | kernel_rfl)
    (case ko_4_6 => first | k_is | kernel_rfl)
    (case ko_4_7 => first | k_is | kernel_rfl)
    (case q_InvalidText => first | k_is | kernel_rfl)
    (case kx_InvalidText => k_is)
    (case sb_InvalidText => first | k_is | kernel_rfl)
    (case ty_InvalidText => first | k_is | kernel_rfl)
    (case xg_InvalidText => first | k_is | kernel_rfl)
    (case xk_InvalidText => first | k_is | kernel_rfl)
    (case xd_InvalidText => first | k_is | kernel_rfl)
    (case xa_InvalidText => first | k_is | kernel_rfl)
    (case xm_InvalidText => first | k_is | kernel_rfl)
    (case em_InvalidText => first | k_is | kernel_rfl)
    (case kv_InvalidText => first | k_is | kernel_rfl)
    (case ko_5_0 => first | k_is | kernel_rfl)
    (case ko_5_1 => first | k_is | kernel_rfl)
    (case ko_5_2 => first | k_is | kernel_rfl)
    (case ko_5_3 => first | k_is | kernel_rfl)
    (case ko_5_4 => first | k_is | kernel_rfl)
    (case ko_5_5 => first | k_is | kernel_rfl)
    (case ko_5_6 => first | k_is | kernel_rfl)
    (case ko_5_7 => first | k_is | kernel_rfl)
    (case q_TooMany => first | k_is | kernel_rfl)
    (case kx_TooMany => k_is)
    (case sb_TooMany => first | k_is | kernel_rfl)
    (case ty_TooMany => first | k_is | kernel_rfl)
    (case xg_TooMany => first | k_is | kernel_rfl)
    (case xk_TooMany => first | k_is | kernel_rfl)
    (case xd_TooMany => first | k_is | kernel_rfl)
    (case xa_TooMany => first | k_is | kernel_rfl)
    (case xm_TooMany => first | k_is | kernel_rfl)
    (case em_TooMany => first | k_is | kernel_rfl)
    (case kv_TooMany => first | k_is | kernel_rfl)
    (case ko_6_0 => first | k_is | kernel_rfl)
    (case ko_6_1 => first | k_is | kernel_rfl)
    (case ko_6_2 => first | k_is | kernel_rfl)
    (case ko_6_3 => first | k_is | kernel_rfl)
    (case ko_6_4 => first | k_is | kernel_rfl)
    (case ko_6_5 => first | k_is | kernel_rfl)
    (case ko_6_6 => first | k_is | kernel_rfl)
    (case ko_6_7 => first | k_is | kernel_rfl)
    (case q_NothingToUndo => first | k_is | kernel_rfl)
    (case kx_NothingToUndo => k_is)
    (case sb_NothingToUndo => first | k_is | kernel_rfl)
    (case ty_NothingToUndo => first | k_is | kernel_rfl)
    (case xg_NothingToUndo => first | k_is | kernel_rfl)
    (case xk_NothingToUndo => first | k_is | kernel_rfl)
    (case xd_NothingToUndo => first | k_is | kernel_rfl)
    (case xa_NothingToUndo => first | k_is | kernel_rfl)
    (case xm_NothingToUndo => first | k_is | kernel_rfl)
    (case em_NothingToUndo => first | k_is | kernel_rfl)
    (case kv_NothingToUndo => first | k_is | kernel_rfl)
    (case ko_7_0 => first | k_is | kernel_rfl)
    (case ko_7_1 => first | k_is | kernel_rfl)
    (case ko_7_2 => first | k_is | kernel_rfl)
    (case ko_7_3 => first | k_is | kernel_rfl)
    (case ko_7_4 => first | k_is | kernel_rfl)
    (case ko_7_5 => first | k_is | kernel_rfl)
    (case ko_7_6 => first | k_is | kernel_rfl)
    (case ko_7_7 => first | k_is | kernel_rfl)
    (case zVE => k_is)
    (case g_PickError => k_is)
    (case n_MOST_THINGS => k_is)
    (case xN => first | k_is | kernel_rfl)
    (case xT => first | k_is | kernel_rfl)
    (case z_all => k_is)
    (case z_any => k_is)
    (case z_sorted => k_is)
    (case z_set => k_is)
    (case z_list => k_is)
    (case z_tuple => k_is)
    (case z_isinstance => k_is)
    (case z_int => k_is)
    (case z_bool => k_is)
    (case z_str => k_is)
    (case z_range => k_is)
    (case z_len => k_is)
    (case z_sum => k_is)
    (case z_min => k_is)
    (case z_max => k_is)
    (case z_enumerate => k_is)
    (case z_abs => k_is)
    (case a_law => k_is)
    (case l_law => k_is)
    (case c_law => k_is)
    (case k_law => k_is)
    (case hT_law_end => exact PySem.W.km_tabs_of Y _ (List.Mem.head _))
    (case hT_law => exact PySem.W.km_tabs_of Y _ (List.Mem.tail _ (List.Mem.head _)))
    (case nT_law_end => kernel_rfl)
    (case hC_law_end => kernel_rfl)
    (case nT_law => kernel_rfl)
    (case hC_law => kernel_rfl)
    (case ne_law_end_law => kernel_rfl)
#print axioms PySem.Challenge.cw_pickcones_k09_whole_baskets_holds
