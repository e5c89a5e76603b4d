import PyProof.Rows.All
import Wide.All
import OpenK.AllK
import Wide.FinOn
import PyProof.EqAt
import PyProof.EqKinds
import PyProof.TupleCall
import HandS.ForMost
import HandS.TupAny
import HandS.TupMul
import HandS.IsInst
import HandS.Flow
import HandS.Zip
import HandS.SortOrd
import HandS.TupLe
import KE.SortKeyed
import KE.DataCmp
import HandS.Style
import KE.GoesEnumKw
import HandS.TupSets
import PyProof.WalksMore
import PySem.Challenge.RW_somerows_k01_cases_recognized
set_option Elab.async false
set_option linter.all false
set_option maxRecDepth 100000
set_option maxHeartbeats 4000000
namespace DL
open PySem PySem.Spec L2
open PyProof.Rows hiding St

inductive DV where
  | d (x : PyData)
  | r (a : Addr)
  | s (ns : List Int)
inductive MO where
  | lst (xs : List DV)
  | tup (xs : List DV)
abbrev Mem := Addr → Option MO
abbrev SD := List (Option DV)
abbrev DQ := DV → Mem → Prop
abbrev WE := SD → Mem → DQ → Prop
abbrev WT := SD → Mem → (Bool → Mem → Prop) → Prop
abbrev WA := SD → Mem → (List DV → Mem → Prop) → Prop
structure DEnds where
  nx : SD → Mem → Prop
  rt : DQ
  bk : SD → Mem → Prop := fun _ _ => False
  ct : SD → Mem → Prop := fun _ _ => False
abbrev WS := DEnds → SD → Mem → Prop
def mupd (M : Mem) (a : Addr) (o : MO) : Mem := fun b => if b = a then some o else M b
theorem mupd_same {M : Mem} {a : Addr} {o : MO} : mupd M a o a = some o := by unfold mupd; rw [if_pos rfl]
theorem mupd_ne {M : Mem} {a b : Addr} {o : MO} (h : b ≠ a) : mupd M a o b = M b := by unfold mupd; rw [if_neg h]
theorem mupd_mupd {M : Mem} {a : Addr} {o u : MO} : mupd (mupd M a o) a u = mupd M a u := by
  funext b; unfold mupd; split <;> rfl
theorem mupd_self {M : Mem} {a : Addr} {o : MO} (h : M a = some o) : mupd M a o = M := by
  funext b; unfold mupd; split
  · subst_vars; exact h.symm
  · rfl

def KTup (K : PySem.W.Frag) (a : Addr) (xs : List V) : Prop :=
  ∃ (o : Obj) (its : Array Value) (n : Nat), K.lookup a = some o ∧ o.cls = .type "tuple" ∧ o.data = .seq its n ∧ its.size ≤ sizeLine ∧ Vals xs its.toList
def KLst (K : PySem.W.Frag) (a : Addr) (xs : List V) : Prop :=
  ∃ (o : Obj) (its : Array Value) (n : Nat), K.lookup a = some o ∧ o.cls = .type "list" ∧ o.dict = none ∧ o.data = .seq its n ∧ its.size ≤ sizeLine ∧ Vals xs its.toList
mutual
inductive RepP (K : PySem.W.Frag) (H : Hp) (M : Mem) : V → PyData → Prop
  | non : RepP K H M .non .none
  | bl (b : Bool) : RepP K H M (.bl b) (.bool b)
  | int (i : Int) : RepP K H M (.int i) (.int i)
  | str (x : Str) : RepP K H M (.str x) (.str x)
  | lst {a : Addr} {xs : List V} {ds : List PyData} : H a = some (.lst xs) → M a = none → RepA K H M xs ds → RepP K H M (.ref a) (.list ds)
  | tup {a : Addr} {xs : List V} {ds : List PyData} : H a = some (.tup xs) → M a = none → RepA K H M xs ds → RepP K H M (.ref a) (.tuple ds)
  | ktp {a : Addr} {xs : List V} {ds : List PyData} : KTup K a xs → RepA K H M xs ds → RepP K H M (.ref a) (.tuple ds)
  | dct0 {a : Addr} : H a = some (.dK []) → M a = none → RepP K H M (.ref a) (.dict [])
inductive RepA (K : PySem.W.Frag) (H : Hp) (M : Mem) : List V → List PyData → Prop
  | nil : RepA K H M [] []
  | cons {v : V} {vs : List V} {d : PyData} {ds : List PyData} : RepP K H M v d → RepA K H M vs ds → RepA K H M (v :: vs) (d :: ds)
end
def Rep (K : PySem.W.Frag) (H : Hp) (M : Mem) (v : V) : DV → Prop
  | .d x => RepP K H M v x
  | .r a => v = .ref a
  | .s ns => ∃ a, v = .ref a ∧ ((Rd H a (.lst (ns.map V.int)) ∧ M a = none) ∨ KLst K a (ns.map V.int))
abbrev RepL (K : PySem.W.Frag) (H : Hp) (M : Mem) : List V → List DV → Prop := Paired (Rep K H M)
def MOk (K : PySem.W.Frag) (H : Hp) (M : Mem) (a : Addr) : MO → Prop
  | .lst xs => ∃ vs, H a = some (.lst vs) ∧ RepL K H M vs xs
  | .tup xs => ∃ vs, H a = some (.tup vs) ∧ RepL K H M vs xs
def RelM (K : PySem.W.Frag) (H : Hp) (M : Mem) : Prop := ∀ a m, M a = some m → MOk K H M a m
def Keep (H : Hp) (M : Mem) (H' : Hp) (M' : Mem) : Prop := ∀ a, M a = none → (∀ o, H a = some o → H' a = some o ∧ M' a = none)

theorem Keep.refl (H : Hp) (M : Mem) : Keep H M H M := fun _ n _ e => ⟨e, n⟩
theorem Keep.trans {H H1 H2 : Hp} {M M1 M2 : Mem} (a : Keep H M H1 M1) (b : Keep H1 M1 H2 M2) : Keep H M H2 M2 := fun c n o e =>
  let ⟨e1, n1⟩ := a c n o e
  b c n1 o e1
mutual
theorem RepP.keep {K : PySem.W.Frag} {H H' : Hp} {M M' : Mem} (k : Keep H M H' M') : ∀ (d : PyData) (v : V), RepP K H M v d → RepP K H' M' v d
  | .none, _, h => by cases h; exact .non
  | .bool _, _, h => by cases h; exact .bl _
  | .int _, _, h => by cases h; exact .int _
  | .str _, _, h => by cases h; exact .str _
  | .list ds, _, h => by
    cases h with
    | lst e n r =>
      obtain ⟨e', n'⟩ := k _ n _ e
      exact .lst e' n' (RepA.keep k ds _ r)
  | .tuple ds, _, h => by
    cases h with
    | tup e n r =>
      obtain ⟨e', n'⟩ := k _ n _ e
      exact .tup e' n' (RepA.keep k ds _ r)
    | ktp e r => exact .ktp e (RepA.keep k ds _ r)
  | .dict _, _, h => by
    cases h with
    | dct0 e n =>
      obtain ⟨e', n'⟩ := k _ n _ e
      exact .dct0 e' n'
theorem RepA.keep {K : PySem.W.Frag} {H H' : Hp} {M M' : Mem} (k : Keep H M H' M') : ∀ (ds : List PyData) (vs : List V), RepA K H M vs ds → RepA K H' M' vs ds
  | [], _, h => by cases h; exact .nil
  | d :: ds, _, h => by
    cases h with
    | cons h1 h2 => exact .cons (RepP.keep k d _ h1) (RepA.keep k ds _ h2)
end
section
variable {K : PySem.W.Frag} {H H' : Hp} {M M' : Mem}
theorem Rep.keep (k : Keep H M H' M') : ∀ {v : V} {d : DV}, Rep K H M v d → Rep K H' M' v d
  | _, .d x, h => RepP.keep k x _ h
  | _, .r _, h => h
  | _, .s ns, h => by
    obtain ⟨a, e, h⟩ := h
    refine ⟨a, e, ?_⟩
    rcases h with ⟨h | ⟨o, h⟩, n⟩ | h
    · exact .inl ⟨.inl (k a n _ h).1, (k a n _ h).2⟩
    · exact .inl ⟨.inr ⟨o, (k a n _ h).1⟩, (k a n _ h).2⟩
    · exact .inr h
theorem RepL.keep (k : Keep H M H' M') {vs : List V} {ds : List DV} (h : RepL K H M vs ds) : RepL K H' M' vs ds := Paired.mapP h fun _ _ r => r.keep k
theorem RepA.toL : ∀ {vs : List V} {ds : List PyData}, RepA K H M vs ds → RepL K H M vs (ds.map DV.d)
  | _, [], h => by cases h; exact .nil
  | _, d :: ds, h => by
    cases h with
    | cons h1 h2 => exact .cons h1 h2.toL
theorem RepL.toA : ∀ {vs : List V} {ds : List PyData}, RepL K H M vs (ds.map DV.d) → RepA K H M vs ds
  | _, [], h => by cases h; exact .nil
  | _, d :: ds, h => by
    cases h with
    | cons h1 h2 => exact .cons h1 (RepL.toA h2)
theorem RepA.length : ∀ {vs : List V} {ds : List PyData}, RepA K H M vs ds → vs.length = ds.length
  | _, [], h => by cases h; rfl
  | _, d :: ds, h => by
    cases h with
    | cons h1 h2 => simp [h2.length]
theorem RepA.append : ∀ {vs ws : List V} {ds es : List PyData}, RepA K H M vs ds → RepA K H M ws es → RepA K H M (vs ++ ws) (ds ++ es)
  | _, _, [], _, h, h' => by cases h; exact h'
  | _, _, d :: ds, _, h, h' => by
    cases h with
    | cons h1 h2 => exact .cons h1 (h2.append h')
theorem RepA.drop : ∀ {vs : List V} {ds : List PyData} (n : Nat), RepA K H M vs ds → RepA K H M (vs.drop n) (ds.drop n)
  | _, _, 0, h => h
  | _, [], _ + 1, h => by cases h; exact .nil
  | _, d :: ds, n + 1, h => by
    cases h with
    | cons h1 h2 => exact h2.drop n
theorem RepA.take : ∀ {vs : List V} {ds : List PyData} (n : Nat), RepA K H M vs ds → RepA K H M (vs.take n) (ds.take n)
  | _, _, 0, _ => .nil
  | _, [], _ + 1, h => by cases h; exact .nil
  | _, d :: ds, n + 1, h => by
    cases h with
    | cons h1 h2 => exact .cons h1 (h2.take n)
theorem RepA.get : ∀ {vs : List V} {ds : List PyData} {i : Nat} {d : PyData}, RepA K H M vs ds → ds[i]? = some d → ∃ v, vs[i]? = some v ∧ RepP K H M v d
  | _, [], _, _, _, e => by simp at e
  | _, d :: ds, 0, _, h, e => by
    cases h with
    | cons h1 h2 =>
      simp at e
      subst e
      exact ⟨_, rfl, h1⟩
  | _, d :: ds, i + 1, _, h, e => by
    cases h with
    | cons h1 h2 =>
      obtain ⟨v, a, b⟩ := h2.get (i := i) (by simpa using e)
      exact ⟨v, by simpa using a, b⟩
theorem RepA.atI {vs : List V} {ds : List PyData} {i : Int} {d : PyData} (h : RepA K H M vs ds) (e : L2.atI ds i = some d) : ∃ v, L2.atI vs i = some v ∧ RepP K H M v d := by
  unfold L2.atI at e ⊢
  rw [h.length]
  cases q : ixN ds.length i with
  | none => rw [q] at e; cases e
  | some j =>
    rw [q] at e
    exact h.get e
theorem RelM.no (R : RelM K H M) {p : Addr} (h : H p = none) : M p = none := by
  cases q : M p with
  | none => rfl
  | some m =>
    have z := R p m q
    cases m with
    | lst xs => obtain ⟨vs, e, _⟩ := z; rw [h] at e; cases e
    | tup xs => obtain ⟨vs, e, _⟩ := z; rw [h] at e; cases e
theorem MOk.keep (k : Keep H M H' M') {a : Addr} {m : MO} (h : MOk K H M a m) (e : H' a = H a) : MOk K H' M' a m := by
  cases m with
  | lst xs => obtain ⟨vs, q, r⟩ := h; exact ⟨vs, by rw [e]; exact q, r.keep k⟩
  | tup xs => obtain ⟨vs, q, r⟩ := h; exact ⟨vs, by rw [e]; exact q, r.keep k⟩
theorem Keep.new (R : RelM K H M) {p : Addr} {o : HO} (h : H p = none) : Keep H M (upd H p o) M := fun a n u e => ⟨by rw [upd_ne (ne_of_none e h)]; exact e, n⟩
theorem RelM.new (R : RelM K H M) {p : Addr} {o : HO} (h : H p = none) : RelM K (upd H p o) M := fun a m e => by
  refine (R a m e).keep (Keep.new R h) ?_
  refine upd_ne ?_
  rintro rfl
  rw [R.no h] at e
  cases e
theorem Keep.newM (R : RelM K H M) {p : Addr} {o : HO} {m : MO} (h : H p = none) : Keep H M (upd H p o) (mupd M p m) := fun a n u e => by
  have z := ne_of_none e h
  exact ⟨by rw [upd_ne z]; exact e, by rw [mupd_ne z]; exact n⟩
theorem RelM.newM (R : RelM K H M) {p : Addr} {o : HO} {m : MO} (h : H p = none) (g : MOk K (upd H p o) (mupd M p m) p m) : RelM K (upd H p o) (mupd M p m) := fun a q e => by
  by_cases z : a = p
  · subst z
    rw [mupd_same] at e
    cases e
    exact g
  · rw [mupd_ne z] at e
    exact (R a q e).keep (Keep.newM R h) (upd_ne z)
theorem Keep.put {a : Addr} {o : HO} {m m' : MO} (h : M a = some m) : Keep H M (upd H a o) (mupd M a m') := fun b n u e => by
  have z : b ≠ a := by
    rintro rfl
    rw [h] at n
    cases n
  exact ⟨by rw [upd_ne z]; exact e, by rw [mupd_ne z]; exact n⟩
theorem RelM.put (R : RelM K H M) {a : Addr} {o : HO} {m m' : MO} (h : M a = some m) (g : MOk K (upd H a o) (mupd M a m') a m') : RelM K (upd H a o) (mupd M a m') := fun b q e => by
  by_cases z : b = a
  · subst z
    rw [mupd_same] at e
    cases e
    exact g
  · rw [mupd_ne z] at e
    exact (R b q e).keep (Keep.put h) (upd_ne z)
end
structure RepS (K : PySem.W.Frag) (H : Hp) (M : Mem) (σ : St) (δ : SD) : Prop where
  len : σ.length = δ.length
  at_ : ∀ (i : Nat) (d : DV), δ[i]? = some (some d) → ∃ v, σ[i]? = some (some v) ∧ Rep K H M v d
theorem RepS.keep {K : PySem.W.Frag} {H H' : Hp} {M M' : Mem} {σ : St} {δ : SD} (S : RepS K H M σ δ) (k : Keep H M H' M') : RepS K H' M' σ δ :=
  ⟨S.len, fun i d e => let ⟨v, a, b⟩ := S.at_ i d e; ⟨v, a, b.keep k⟩⟩
theorem RepS.set {K : PySem.W.Frag} {H : Hp} {M : Mem} {σ : St} {δ : SD} (S : RepS K H M σ δ) {v : V} {d : DV} (r : Rep K H M v d) (i : Nat) : RepS K H M (σ.set i (some v)) (δ.set i (some d)) := by
  refine ⟨by simp [S.len], fun j e q => ?_⟩
  by_cases z : i = j
  · subst z
    by_cases l : i < δ.length
    · rw [List.getElem?_set_self l] at q
      cases q
      exact ⟨v, List.getElem?_set_self (by rw [S.len]; exact l), r⟩
    · rw [List.getElem?_eq_none (by simp; omega)] at q
      cases q
  · rw [List.getElem?_set_ne z] at q ⊢
    exact S.at_ j e q

def EndD (K : PySem.W.Frag) (H : Hp) (M : Mem) (Qd : DQ) (Q : VK) : Prop := ∀ d M' v H', Keep H M H' M' → RelM K H' M' → Rep K H' M' v d → Qd d M' → Q v H'
def lift (K : PySem.W.Frag) (w : WE) : TE := fun σ H Q => ∃ δ M Qd, RepS K H M σ δ ∧ RelM K H M ∧ w δ M Qd ∧ EndD K H M Qd Q
def liftT (K : PySem.W.Frag) (w : WT) : TT := fun σ H Q => ∃ δ M Qd, RepS K H M σ δ ∧ RelM K H M ∧ w δ M Qd ∧ ∀ b M' H', Keep H M H' M' → RelM K H' M' → Qd b M' → Q b H'
def liftA (K : PySem.W.Frag) (w : WA) : TA := fun σ H Q => ∃ δ M Qd, RepS K H M σ δ ∧ RelM K H M ∧ w δ M Qd ∧ ∀ ds M' vs H', Keep H M H' M' → RelM K H' M' → RepL K H' M' vs ds → Qd ds M' → Q vs H'
def liftS (K : PySem.W.Frag) (w : WS) : TS := fun D σ H => ∃ δ M E, RepS K H M σ δ ∧ RelM K H M ∧ w E δ M ∧
  (∀ δ' M' σ' H', Keep H M H' M' → RelM K H' M' → RepS K H' M' σ' δ' → E.nx δ' M' → D.nx σ' H') ∧
  (∀ d M' v H', Keep H M H' M' → RelM K H' M' → Rep K H' M' v d → E.rt d M' → D.rt v H') ∧
  (∀ δ' M' σ' H', Keep H M H' M' → RelM K H' M' → RepS K H' M' σ' δ' → E.bk δ' M' → D.bk σ' H') ∧
  (∀ δ' M' σ' H', Keep H M H' M' → RelM K H' M' → RepS K H' M' σ' δ' → E.ct δ' M' → D.ct σ' H')
theorem EndD.step {K : PySem.W.Frag} {H H1 : Hp} {M M1 : Mem} {Qd : DQ} {Q : VK} (E : EndD K H M Qd Q) (k : Keep H M H1 M1) : EndD K H1 M1 Qd Q := fun d M' v H' k' R r q => E d M' v H' (k.trans k') R r q
theorem pe_imp {X : Cx} {e : Expr} {t t' : TE} (h : PE X e t) (i : ∀ σ H Q, t' σ H Q → t σ H Q) : PE X e t' := ⟨fun pins s σ H Q I q => h.run pins s σ H Q I (i σ H Q q)⟩
theorem pt_imp {X : Cx} {e : Expr} {t t' : TT} (h : PT X e t) (i : ∀ σ H Q, t' σ H Q → t σ H Q) : PT X e t' := ⟨fun pins s σ H Q I q => h.run pins s σ H Q I (i σ H Q q)⟩
theorem pw_imp {X : Cx} {e : Expr} {t t' : TT} (h : PW X e t) (i : ∀ σ H Q, t' σ H Q → t σ H Q) : PW X e t' := ⟨fun wh pins s σ H Q I q => h.run wh pins s σ H Q I (i σ H Q q)⟩
theorem pa_imp {X : Cx} {e : List Expr} {t t' : TA} (h : PA X e t) (i : ∀ σ H Q, t' σ H Q → t σ H Q) : PA X e t' := ⟨fun pos pins s σ H Q I q => h.run pos pins s σ H Q I (i σ H Q q)⟩
theorem ps_imp {X : Cx} {e : Stmt} {t t' : TS} (h : PS X e t) (i : ∀ D σ H, t' D σ H → t D σ H) : PS X e t' := ⟨fun pins s σ H D I q => h.run pins s σ H D I (i D σ H q)⟩
theorem pss_imp {X : Cx} {e : List Stmt} {t t' : TS} (h : PSs X e t) (i : ∀ D σ H, t' D σ H → t D σ H) : PSs X e t' := ⟨fun pins s σ H D I q => h.run pins s σ H D I (i D σ H q)⟩

abbrev DE (X : Cx) (e : Expr) (w : WE) : Prop := PE X e (lift X.K w)
abbrev DT (X : Cx) (e : Expr) (w : WT) : Prop := PT X e (liftT X.K w)
abbrev DWh (X : Cx) (e : Expr) (w : WT) : Prop := PW X e (liftT X.K w)
abbrev DA (X : Cx) (e : List Expr) (w : WA) : Prop := PA X e (liftA X.K w)
abbrev DS (X : Cx) (e : Stmt) (w : WS) : Prop := PS X e (liftS X.K w)
abbrev DSs (X : Cx) (e : List Stmt) (w : WS) : Prop := PSs X e (liftS X.K w)
def wV (i : Nat) : WE := fun δ M Q => match δ[i]? with
  | some (some d) => Q d M
  | _ => False
def wC (d : DV) : WE := fun _ M Q => Q d M
section
variable {X : Cx} {pos : Pos}
theorem de_var {i : Nat} {x : Str} (hN : X.N[i]? = some x) (hv : Vis X.env.scope x) (hd : (x == ("__debug__" : Str)) = false := by decide) (hcd : (x == ("__classdict__" : Str)) = false := by decide) : DE X (.Name x pos) (wV i) :=
  pe_imp (pe_var hN hv hd hcd) fun σ H Q ⟨δ, M, Qd, S, R, h, E⟩ => by
    unfold wV at h
    split at h
    · rename_i d e
      obtain ⟨v, ev, r⟩ := S.at_ i d e
      exact ⟨v, ev, E _ _ _ _ (Keep.refl _ _) R r h⟩
    · exact h.elim
theorem dv (i : Nat) {x : Str} (hN : X.N[i]? = some x := by rfl) (hv : Vis X.env.scope x := by first | exact Or.inl rfl | exact Or.inr (Or.inl rfl) | exact Or.inr (Or.inr rfl)) (hd : (x == ("__debug__" : Str)) = false := by decide)
    (hcd : (x == ("__classdict__" : Str)) = false := by decide) : DE X (.Name x pos) (wV i) := de_var hN hv hd hcd
theorem de_const {e : Expr} {v : V} {x : PyData} (h : PE X e (tC v)) (r : ∀ H M, RepP X.K H M v x) : DE X e (wC (.d x)) :=
  pe_imp h fun σ H Q ⟨δ, M, Qd, S, R, q, E⟩ => E (.d x) _ _ _ (Keep.refl _ _) R (r H M) q
theorem de_int {i : Int} {j} : DE X (.Constant (.int i) j pos) (wC (.d (.int i))) := de_const pe_int fun _ _ => .int i
theorem de_bl {b : Bool} {j} : DE X (.Constant (.bool b) j pos) (wC (.d (.bool b))) := de_const pe_bl fun _ _ => .bl b
theorem de_non {j} : DE X (.Constant .none j pos) (wC (.d .none)) := de_const pe_non fun _ _ => .non
theorem de_str {x : Str} {j} : DE X (.Constant (.str x) j pos) (wC (.d (.str x))) := de_const pe_str fun _ _ => .str x
theorem de_globI {x : Str} {i : Int} {t : Tok} (hg : Gl X x) (hm : X.mg x = some (.int i t)) (hd : (x == ("__debug__" : Str)) = false := by decide) : DE X (.Name x pos) (wC (.d (.int i))) :=
  de_const (pe_glob hg hm (v := .int i) ⟨t, rfl⟩ hd) fun _ _ => .int i
inductive KRep (K : PySem.W.Frag) (v : V) (x : PyData) : Prop
  | mk (h : ∀ H M, RepP K H M v x)
theorem de_globK {x : Str} {v : V} {u : Value} {d : PyData} (hg : Gl X x) (hm : X.mg x = some u) (r : RelV v u) (k : KRep X.K v d) (hd : (x == ("__debug__" : Str)) = false := by decide) : DE X (.Name x pos) (wC (.d d)) :=
  de_const (pe_glob hg hm r hd) fun H M => let ⟨h⟩ := k; h H M
theorem de_globR {x : Str} {a : Addr} (hg : Gl X x) (hm : X.mg x = some (.ref a)) (hd : (x == ("__debug__" : Str)) = false := by decide) : DE X (.Name x pos) (wC (.r a)) :=
  pe_imp (pe_glob hg hm (v := .ref a) rfl hd) fun σ H Q ⟨δ, M, Qd, S, R, q, E⟩ => E (.r a) _ _ _ (Keep.refl _ _) R rfl q

abbrev R2D := DV → DV → Mem → DQ → Prop
def Sim2 (K : PySem.W.Frag) (r : R2) (rd : R2D) : Prop := ∀ H M x y dx dy Qd Q, RelM K H M → Rep K H M x dx → Rep K H M y dy → rd dx dy M Qd → EndD K H M Qd Q → r x y H Q
def wOp (rd : R2D) (wa wb : WE) : WE := fun δ M Q => wa δ M fun x M1 => wb δ M1 fun y M2 => rd x y M2 Q
variable {a b : Expr} {wa wb : WE}
theorem lift2 {K : PySem.W.Frag} {r : R2} {rd : R2D} (sim : Sim2 K r rd) {σ : St} {H : Hp} {Q : VK} (h : lift K (wOp rd wa wb) σ H Q) : tOp r (lift K wa) (lift K wb) σ H Q := by
  obtain ⟨δ, M, Qd, S, R, h, E⟩ := h
  refine ⟨δ, M, _, S, R, h, fun d M1 v H1 k1 R1 r1 h1 => ?_⟩
  exact ⟨δ, M1, _, S.keep k1, R1, h1, fun e M2 u H2 k2 R2 r2 h2 => sim H2 M2 v u d e Qd Q R2 (r1.keep k2) r2 h2 (E.step (k1.trans k2))⟩
theorem de_op {op : Operator} {r : R2} {rd : R2D} (ho : OpR X (binaryOp op) r) (sim : Sim2 X.K r rd) (ha : DE X a wa) (hb : DE X b wb) : DE X (.BinOp a op b pos) (wOp rd wa wb) :=
  pe_imp (pe_op ho ha hb) fun _ _ _ h => lift2 sim h
theorem de_cmp {op : CmpOp} {r : R2} {rd : R2D} (ho : OpR X (compareOp op) r) (sim : Sim2 X.K r rd) (ha : DE X a wa) (hb : DE X b wb) (hm : behindInMarks op b = false) : DE X (.Compare a [op] [b] pos) (wOp rd wa wb) :=
  pe_imp (pe_cmpR ho ha hb hm) fun _ _ _ h => lift2 sim h
def wB (w : WE) : WT := fun δ M Q => w δ M fun x M1 => match x with
  | .d (.bool k) => Q k M1
  | _ => False
theorem liftB {K : PySem.W.Frag} {w : WE} {σ : St} {H : Hp} {Q : Bool → Hp → Prop} (h : liftT K (wB w) σ H Q) : lift K w σ H fun x H' => ∃ k, x = .bl k ∧ Q k H' := by
  obtain ⟨δ, M, Qd, S, R, h, E⟩ := h
  refine ⟨δ, M, _, S, R, h, fun d M1 v H1 k1 R1 r1 h1 => ?_⟩
  split at h1
  · cases r1
    exact ⟨_, rfl, E _ _ _ k1 R1 h1⟩
  · exact h1.elim
theorem dt_val {e : Expr} {w : WE} (h : DE X e w) (he : ∀ whole, isTrue e X.env whole = (do let v ← whole; standAt e.pos; holding [v] (truthy v)) := by intro _; rfl) : DT X e (wB w) :=
  pt_imp (pt_val h he) fun _ _ _ q => liftB q
theorem dt_cmp {op : CmpOp} {r : R2} {rd : R2D} (ho : OpR X (compareOp op) r) (sim : Sim2 X.K r rd) (ha : DE X a wa) (hb : DE X b wb) (hm : behindInMarks op b = false) : DT X (.Compare a [op] [b] pos) (wB (wOp rd wa wb)) :=
  pt_imp (pt_cmpR ho ha hb hm) fun σ H Q q => by
    have q' := liftB q
    exact lift2 (Q := fun x H' => ∃ k, x = .bl k ∧ Q k H') sim q'
end
end DL
namespace DL
open PySem PySem.Spec L2
open PyProof.Rows hiding St

def rD (K : PySem.W.Frag) (rd : R2D) : R2 := fun x y H Q => ∃ dx dy M Qd, RelM K H M ∧ Rep K H M x dx ∧ Rep K H M y dy ∧ rd dx dy M Qd ∧ EndD K H M Qd Q
theorem simD {K : PySem.W.Frag} {rd : R2D} : Sim2 K (rD K rd) rd := fun H M x y dx dy Qd Q R rx ry h E => ⟨dx, dy, M, Qd, R, rx, ry, h, E⟩
theorem opR_imp {X : Cx} {f : Value → Value → Sem Value} {r r' : R2} (h : OpR X f r) (i : ∀ x y H Q, r' x y H Q → r x y H Q) : OpR X f r' := fun pins s σ H x y v u Q I rx ry q => h pins s σ H x y v u Q I rx ry (i _ _ _ _ q)
section
variable {X : Cx}
abbrev OpD (X : Cx) (f : Value → Value → Sem Value) (rd : R2D) : Prop := OpR X f (rD X.K rd)
def iOp (C : Int → Int → Prop) (g : Int → Int → PyData) : DV → DV → Mem → DQ → Prop
  | .d (.int i), .d (.int j), M, Q => C i j ∧ Q (.d (g i j)) M
  | _, _, M, Q => False
def iOp0 (g : Int → Int → PyData) : DV → DV → Mem → DQ → Prop
  | .d (.int i), .d (.int j), M, Q => Q (.d (g i j)) M
  | _, _, M, Q => False
theorem RepP.int_inv {K : PySem.W.Frag} {H : Hp} {M : Mem} {v : V} {i : Int} (h : RepP K H M v (.int i)) : v = .int i := by cases h; rfl
theorem RepP.bl_inv {K : PySem.W.Frag} {H : Hp} {M : Mem} {v : V} {i : Bool} (h : RepP K H M v (.bool i)) : v = .bl i := by cases h; rfl
theorem RepP.str_inv {K : PySem.W.Frag} {H : Hp} {M : Mem} {v : V} {i : Str} (h : RepP K H M v (.str i)) : v = .str i := by cases h; rfl
theorem od_int {f : Value → Value → Sem Value} {C : Int → Int → Prop} {g : Int → Int → V} {gd : Int → Int → PyData} (h : OpR X f (rI C g)) (hg : ∀ i j H M, RepP X.K H M (g i j) (gd i j)) : OpD X f (iOp C gd) :=
  opR_imp h fun x y H Q ⟨dx, dy, M, Qd, R, rx, ry, q, E⟩ => by
    unfold iOp at q
    split at q
    · exact ⟨_, _, RepP.int_inv rx, RepP.int_inv ry, q.1, E (.d _) _ _ _ (Keep.refl _ _) R (hg _ _ _ _) q.2⟩
    · exact q.elim
theorem od_int0 {f : Value → Value → Sem Value} {g : Int → Int → V} {gd : Int → Int → PyData} (h : OpR X f (rI0 g)) (hg : ∀ i j H M, RepP X.K H M (g i j) (gd i j)) : OpD X f (iOp0 gd) :=
  opR_imp h fun x y H Q ⟨dx, dy, M, Qd, R, rx, ry, q, E⟩ => by
    unfold iOp0 at q
    split at q
    · exact ⟨_, _, RepP.int_inv rx, RepP.int_inv ry, E (.d _) _ _ _ (Keep.refl _ _) R (hg _ _ _ _) q⟩
    · exact q.elim
theorem od_sub : OpD X (binaryOp .Sub) (iOp0 fun i j => .int (i - j)) := od_int0 op_sub fun _ _ _ _ => .int _
theorem od_mod : OpD X (binaryOp .Mod) (iOp (fun _ j => 0 < j) fun i j => .int (i % j)) := od_int op_mod fun _ _ _ _ => .int _
theorem od_fdiv : OpD X (binaryOp .FloorDiv) (iOp CDiv fun i j => .int (i / j)) := od_int op_fdiv fun _ _ _ _ => .int _
theorem od_pow : OpD X (binaryOp .Pow) (iOp CPow fun i j => .int (i ^ j.toNat)) := od_int op_pow fun _ _ _ _ => .int _
theorem od_lt : OpD X (compareOp .Lt) (iOp0 fun i j => .bool (decide (i < j))) := od_int0 op_lt fun _ _ _ _ => .bl _
theorem od_le : OpD X (compareOp .LtE) (iOp0 fun i j => .bool (decide (i ≤ j))) := od_int0 op_le fun _ _ _ _ => .bl _
theorem od_gt : OpD X (compareOp .Gt) (iOp0 fun i j => .bool (decide (j < i))) := od_int0 op_gt fun _ _ _ _ => .bl _
theorem od_ge : OpD X (compareOp .GtE) (iOp0 fun i j => .bool (decide (j ≤ i))) := od_int0 op_ge fun _ _ _ _ => .bl _
def allD : List DV → Option (List PyData)
  | [] => some []
  | .d x :: r => (allD r).map (x :: ·)
  | _ :: _ => none
theorem allD_eq : ∀ {ds : List DV} {xs : List PyData}, allD ds = some xs → ds = xs.map DV.d
  | [], _, h => by cases h; rfl
  | .d x :: r, _, h => by
    unfold allD at h
    obtain ⟨l, e, rfl⟩ := Option.map_eq_some_iff.mp h
    rw [allD_eq e]
    rfl
  | .r _ :: _, _, h => by cases h
  | .s _ :: _, _, h => by cases h
theorem allD_map : ∀ xs : List PyData, allD (xs.map DV.d) = some xs
  | [] => rfl
  | x :: xs => by show (allD (xs.map DV.d)).map (x :: ·) = _; rw [allD_map xs]; rfl
def lstMD (M : Mem) (a : Addr) : Option (List PyData) := match M a with
  | some (.lst xs) => allD xs
  | _ => none
theorem lstMD_inv {K : PySem.W.Frag} {H : Hp} {M : Mem} {a : Addr} {ds : List PyData} (R : RelM K H M) (h : lstMD M a = some ds) : ∃ vs, H a = some (.lst vs) ∧ RepA K H M vs ds := by
  unfold lstMD at h
  split at h
  · rename_i xs hm
    obtain ⟨vs, hv, rl⟩ := R a _ hm
    rw [allD_eq h] at rl
    exact ⟨vs, hv, RepL.toA rl⟩
  · cases h
def optD {α : Type} : Option α → (α → Prop) → Prop
  | some x, k => k x
  | none, _ => False
theorem optD_inv {α : Type} {o : Option α} {k : α → Prop} (h : optD o k) : ∃ x, o = some x ∧ k x := by
  cases o with
  | some x => exact ⟨_, rfl, h⟩
  | none => exact h.elim
def addD : DV → DV → Mem → DQ → Prop
  | .d (.int i), .d (.int j), M, Q => Q (.d (.int (i + j))) M
  | .d (.str i), .d (.str j), M, Q => i.length + j.length ≤ sizeLine ∧ Q (.d (.str (i ++ j))) M
  | .d (.tuple xs), .d (.tuple ys), M, Q => xs.length + ys.length ≤ sizeLine ∧ Q (.d (.tuple (xs ++ ys))) M
  | .d (.list xs), .d (.list ys), M, Q => xs.length + ys.length ≤ sizeLine ∧ Q (.d (.list (xs ++ ys))) M
  | .r a, .d (.list ys), M, Q => optD (lstMD M a) fun xs => xs.length + ys.length ≤ sizeLine ∧ Q (.d (.list (xs ++ ys))) M
  | .d (.list xs), .r b, M, Q => optD (lstMD M b) fun ys => xs.length + ys.length ≤ sizeLine ∧ Q (.d (.list (xs ++ ys))) M
  | .r a, .r b, M, Q => optD (lstMD M a) fun xs => optD (lstMD M b) fun ys => xs.length + ys.length ≤ sizeLine ∧ Q (.d (.list (xs ++ ys))) M
  | _, _, M, Q => False
theorem RepP.tup_inv {K : PySem.W.Frag} {H : Hp} {M : Mem} {v : V} {ds : List PyData} (h : RepP K H M v (.tuple ds)) : ∃ a xs, v = .ref a ∧ SqT K H a xs ∧ RepA K H M xs ds := by
  cases h with
  | tup e n r => exact ⟨_, _, rfl, SqT.of e, r⟩
  | ktp e r => exact ⟨_, _, rfl, .inr e, r⟩
theorem RepP.lst_inv {K : PySem.W.Frag} {H : Hp} {M : Mem} {v : V} {ds : List PyData} (h : RepP K H M v (.list ds)) : ∃ a xs, v = .ref a ∧ H a = some (.lst xs) ∧ M a = none ∧ RepA K H M xs ds := by
  cases h with
  | lst e n r => exact ⟨_, _, rfl, e, n, r⟩
theorem EndD.tup {K : PySem.W.Frag} {H : Hp} {M : Mem} {Qd : DQ} {Q : VK} {xs : List V} {ds : List PyData} {p : Addr} (E : EndD K H M Qd Q) (R : RelM K H M) (r : RepA K H M xs ds) (hp : H p = none) (q : Qd (.d (.tuple ds)) M) : Q (.ref p) (upd H p (.tup xs)) :=
  E (.d (.tuple ds)) M _ _ (Keep.new R hp) (R.new hp) (.tup upd_same (R.no hp) (RepA.keep (Keep.new R hp) _ _ r)) q
theorem EndD.lst {K : PySem.W.Frag} {H : Hp} {M : Mem} {Qd : DQ} {Q : VK} {xs : List V} {ds : List PyData} {p : Addr} (E : EndD K H M Qd Q) (R : RelM K H M) (r : RepA K H M xs ds) (hp : H p = none) (q : Qd (.d (.list ds)) M) : Q (.ref p) (upd H p (.lst xs)) :=
  E (.d (.list ds)) M _ _ (Keep.new R hp) (R.new hp) (.lst upd_same (R.no hp) (RepA.keep (Keep.new R hp) _ _ r)) q
theorem RepA.nil_iff {K : PySem.W.Frag} {H : Hp} {M : Mem} {xs : List V} {ds : List PyData} (r : RepA K H M xs ds) : xs = [] ↔ ds = [] := by
  have := r.length
  cases xs <;> cases ds <;> simp_all
theorem od_add : OpD X (binaryOp .Add) addD :=
  opR_imp (op_add.or (op_add_str.or (op_catA.or op_cat))) fun x y H Q ⟨dx, dy, M, Qd, R, rx, ry, q, E⟩ => by
    unfold addD at q
    split at q
    · exact .inl ⟨_, _, RepP.int_inv rx, RepP.int_inv ry, E (.d _) _ _ _ (Keep.refl _ _) R (.int _) q⟩
    · exact .inr (.inl ⟨_, _, RepP.str_inv rx, RepP.str_inv ry, q.1, E (.d _) _ _ _ (Keep.refl _ _) R (.str _) q.2⟩)
    · rename_i ds es
      have rx : RepP _ _ _ _ _ := rx
      have ry : RepP _ _ _ _ _ := ry
      obtain ⟨a, xs, e1, s1, r1⟩ := RepP.tup_inv rx
      obtain ⟨b, ys, e2, s2, r2⟩ := RepP.tup_inv ry
      refine .inr (.inr (.inl ⟨a, b, xs, ys, e1, e2, s1, s2, by rw [r1.length, r2.length]; exact q.1, fun z => ?_, fun z z' => ?_, fun _ _ p hp => ?_⟩))
      · have z := r1.nil_iff.mp z
        subst z
        rw [← e2]
        exact E (.d _) _ _ _ (Keep.refl _ _) R ry q.2
      · have z := r2.nil_iff.mp z'
        subst z
        rw [← e1]
        exact E (.d (.tuple ds)) _ _ _ (Keep.refl _ _) R rx (by simpa using q.2)
      · exact E.tup R (r1.append r2) hp q.2
    · rename_i ds es
      obtain ⟨a, xs, e1, s1, _, r1⟩ := RepP.lst_inv rx
      obtain ⟨b, ys, e2, s2, _, r2⟩ := RepP.lst_inv ry
      exact .inr (.inr (.inr ⟨a, b, xs, ys, e1, e2, s1, s2, by rw [r1.length, r2.length]; exact q.1, fun p hp => E.lst R (r1.append r2) hp q.2⟩))
    · rename_i a es
      obtain ⟨ds, e, q⟩ := optD_inv q
      obtain ⟨xs, s1, r1⟩ := lstMD_inv R e
      obtain ⟨b, ys, e2, s2, _, r2⟩ := RepP.lst_inv ry
      exact .inr (.inr (.inr ⟨a, b, xs, ys, rx, e2, s1, s2, by rw [r1.length, r2.length]; exact q.1, fun p hp => E.lst R (r1.append r2) hp q.2⟩))
    · rename_i ds b
      obtain ⟨es, e, q⟩ := optD_inv q
      obtain ⟨ys, s2, r2⟩ := lstMD_inv R e
      obtain ⟨a, xs, e1, s1, _, r1⟩ := RepP.lst_inv rx
      exact .inr (.inr (.inr ⟨a, b, xs, ys, e1, ry, s1, s2, by rw [r1.length, r2.length]; exact q.1, fun p hp => E.lst R (r1.append r2) hp q.2⟩))
    · rename_i a b
      obtain ⟨ds, e, q⟩ := optD_inv q
      obtain ⟨es, e', q⟩ := optD_inv q
      obtain ⟨xs, s1, r1⟩ := lstMD_inv R e
      obtain ⟨ys, s2, r2⟩ := lstMD_inv R e'
      exact .inr (.inr (.inr ⟨a, b, xs, ys, rx, ry, s1, s2, by rw [r1.length, r2.length]; exact q.1, fun p hp => E.lst R (r1.append r2) hp q.2⟩))
    · exact q.elim
def mulD : R2D := iOp CMul fun i j => .int (i * j)
theorem od_mul : OpD X (binaryOp .Mult) mulD := od_int op_mul fun _ _ _ _ => .int _
def wNeg (w : WE) : WE := fun δ M Q => w δ M fun x M1 => match x with
  | .d (.int i) => Q (.d (.int (-i))) M1
  | _ => False
theorem de_neg {a : Expr} {pos : Pos} {wa : WE} (ha : DE X a wa) : DE X (.UnaryOp .USub a pos) (wNeg wa) :=
  pe_imp (pe_un un_neg ha) fun σ H Q ⟨δ, M, Qd, S, R, h, E⟩ => by
    refine ⟨δ, M, _, S, R, h, fun d M1 v H1 k1 R1 r1 h1 => ?_⟩
    split at h1
    · exact ⟨_, RepP.int_inv r1, E (.d _) _ _ _ k1 R1 (.int _) h1⟩
    · exact h1.elim

mutual
theorem RepP.reads {pins : List (Addr × Obj)} {σ : St} {H : Hp} {M : Mem} {s : Shared} (I : Inv X pins σ H s) : ∀ (d : PyData) (v : V) (u : Value), RepP X.K H M v d → RelV v u → ∃ as, Reads s.heap u d as
  | .none, _, _, h, r => by
    cases h; cases r
    exact ⟨_, Reads.none⟩
  | .bool b, _, _, h, r => by
    cases h; cases r
    exact ⟨_, Reads.bool b⟩
  | .int i, _, _, h, r => by
    cases h
    obtain ⟨t, rfl⟩ := r
    exact ⟨_, Reads.int i t⟩
  | .str x, _, _, h, r => by
    cases h
    obtain ⟨t, rfl⟩ := r
    exact ⟨_, Reads.str x t⟩
  | .list ds, _, _, h, r => by
    cases h with
    | lst e n ha =>
      cases r
      obtain ⟨its, rv, ⟨o, n, ho, hc, _, hd⟩, _⟩ := I.list (SqL.of e)
      obtain ⟨as, hr⟩ := RepA.reads I ds _ its ha rv
      exact ⟨_, Reads.list ho hc hd hr⟩
  | .tuple ds, _, _, h, r => by
    obtain ⟨a, xs, e, hs, ha⟩ := RepP.tup_inv h
    subst e
    cases r
    obtain ⟨its, rv, ⟨o, ho, hc, n, hd⟩, _⟩ := I.tuple hs
    obtain ⟨as, hr⟩ := RepA.reads I ds _ its ha rv
    exact ⟨_, Reads.tuple ho hc hd hr⟩
  | .dict _, _, _, h, r => by
    cases h with
    | dct0 e n =>
      cases r
      obtain ⟨_, _, vs, kv, o, es, ep, ho, ex, hd, _, hp, _⟩ := I.hok _ _ e
      cases kv
      have hes : es.toList = [] := by
        cases q : es.toList with
        | nil => rfl
        | cons x l => rw [q] at hp; cases hp
      exact ⟨_, Reads.dict (kvs := []) ho ex.1 hd (by rw [hes]; exact ReadsAll.nil) (by rw [hes]; exact ReadsAll.nil)⟩
theorem RepA.reads {pins : List (Addr × Obj)} {σ : St} {H : Hp} {M : Mem} {s : Shared} (I : Inv X pins σ H s) : ∀ (ds : List PyData) (vs : List V) (us : List Value), RepA X.K H M vs ds → Vals vs us → ∃ as, ReadsAll s.heap us ds as
  | [], _, _, h, r => by
    cases h; cases r
    exact ⟨_, ReadsAll.nil⟩
  | d :: ds, _, _, h, r => by
    cases h with
    | cons h1 h2 =>
      cases r with
      | cons r1 r2 =>
        obtain ⟨as, q1⟩ := RepP.reads I d _ _ h1 r1
        obtain ⟨bs, q2⟩ := RepA.reads I ds _ _ h2 r2
        exact ⟨_, ReadsAll.cons q1 q2⟩
end
def eqOk : PyData → PyData → Bool
  | .str _, .str _ => true
  | a, b => SeqAt.shaped a && SeqAt.shaped b
def eqD (neg : Bool) : DV → DV → Mem → DQ → Prop
  | .d a, .d b, M, Q => eqOk a b = true ∧ Q (.d (.bool (if neg then !PyData.eqv a b else PyData.eqv a b))) M
  | _, _, M, Q => False
theorem eqOk_inv {a b : PyData} (h : eqOk a b = true) : (∃ i j, a = .str i ∧ b = .str j) ∨ (SeqAt.shaped a = true ∧ SeqAt.shaped b = true) := by
  unfold eqOk at h
  split at h
  · exact .inl ⟨_, _, rfl, rfl⟩
  · exact .inr (Bool.and_eq_true_iff.mp h)
theorem od_eq (hu : X.A.units + 64 < cLine) : OpD X (compareOp .Eq) (eqD false) := by
  intro pins s σ H x y v u Q I rv ru ⟨dx, dy, M, Qd, R, rx, ry, q, E⟩
  unfold eqD at q
  split at q
  · obtain ⟨q1, q2⟩ := q
    rcases eqOk_inv q1 with ⟨i, j, rfl, rfl⟩ | ⟨qa, qb⟩
    · cases RepP.str_inv rx
      cases RepP.str_inv ry
      obtain ⟨t, rfl⟩ := rv
      obtain ⟨t', rfl⟩ := ru
      exact PyProof.Rows.eq_str ⟨.bl _, H, I, rfl, E (.d (.bool (i == j))) _ _ _ (Keep.refl _ _) R (.bl _) (by simpa [PyData.eqv] using q2)⟩
    · obtain ⟨as, h1⟩ := RepP.reads I _ x v rx rv
      obtain ⟨bs, h2⟩ := RepP.reads I _ y u ry ru
      exact SeqAt.compareEq_shaped h1 h2 qa qb hu ⟨.bl _, H, I, rfl, E (.d _) _ _ _ (Keep.refl _ _) R (.bl _) q2⟩
  · exact q.elim
theorem od_ne (hu : X.A.units + 64 < cLine) : OpD X (compareOp .NotEq) (eqD true) := by
  intro pins s σ H x y v u Q I rv ru ⟨dx, dy, M, Qd, R, rx, ry, q, E⟩
  unfold eqD at q
  split at q
  · obtain ⟨q1, q2⟩ := q
    rcases eqOk_inv q1 with ⟨i, j, rfl, rfl⟩ | ⟨qa, qb⟩
    · cases RepP.str_inv rx
      cases RepP.str_inv ry
      obtain ⟨t, rfl⟩ := rv
      obtain ⟨t', rfl⟩ := ru
      exact PyProof.Rows.ne_str ⟨.bl _, H, I, rfl, E (.d (.bool (i != j))) _ _ _ (Keep.refl _ _) R (.bl _) (by simpa [PyData.eqv, bne] using q2)⟩
    · obtain ⟨as, h1⟩ := RepP.reads I _ x v rx rv
      obtain ⟨bs, h2⟩ := RepP.reads I _ y u ry ru
      exact SeqAt.compareNe_shaped h1 h2 qa qb hu ⟨.bl _, H, I, rfl, E (.d _) _ _ _ (Keep.refl _ _) R (.bl _) q2⟩
  · exact q.elim
def inD (neg : Bool) : DV → DV → Mem → DQ → Prop
  | .d a, .d (.tuple bs), M, Q => SeqAt.shaped a = true ∧ SeqAt.shaped (.tuple bs) = true ∧ Q (.d (.bool (if neg then !bs.any fun y => PyData.eqv y a else bs.any fun y => PyData.eqv y a))) M
  | .d a, .d (.list bs), M, Q => SeqAt.shaped a = true ∧ SeqAt.shaped (.list bs) = true ∧ Q (.d (.bool (if neg then !bs.any fun y => PyData.eqv y a else bs.any fun y => PyData.eqv y a))) M
  | _, _, M, Q => False
theorem room_in {A : Around} {d : PyData} {ds : List PyData} (h : SeqAt.shaped d = true) (hu : A.units + 65 < cLine) : A.units + 1 + min (PyData.depthAll ds) d.depth < cLine := by
  have h1 := SeqAt.depth_of_shaped h
  have h2 : min (PyData.depthAll ds) d.depth ≤ d.depth := Nat.min_le_right _ _
  omega
theorem od_in (hu : X.A.units + 65 < cLine) : OpD X (compareOp .In) (inD false) := by
  intro pins s σ H x y v u Q I rv ru ⟨dx, dy, M, Qd, R, rx, ry, q, E⟩
  unfold inD at q
  split at q
  all_goals first
    | exact q.elim
    | (obtain ⟨as, h1⟩ := RepP.reads I _ x v rx rv
       obtain ⟨bs, h2⟩ := RepP.reads I _ y u ry ru
       first
         | exact P3.in_tuple_reads h2 h1 (SeqAt.canLay_of_shaped q.2.1) (SeqAt.canLay_of_shaped q.1) (room_in q.1 hu) ⟨.bl _, H, I, rfl, E (.d _) _ _ _ (Keep.refl _ _) R (.bl _) q.2.2⟩
         | exact SeqAt.in_tuple_reads h2 h1 (SeqAt.canLay_of_shaped q.2.1) (SeqAt.canLay_of_shaped q.1) (room_in q.1 hu) ⟨.bl _, H, I, rfl, E (.d _) _ _ _ (Keep.refl _ _) R (.bl _) q.2.2⟩
         | exact SeqAt.in_list_reads h2 h1 (SeqAt.canLay_of_shaped q.2.1) (SeqAt.canLay_of_shaped q.1) (room_in q.1 hu) ⟨.bl _, H, I, rfl, E (.d _) _ _ _ (Keep.refl _ _) R (.bl _) q.2.2⟩)
theorem od_notin (hu : X.A.units + 65 < cLine) : OpD X (compareOp .NotIn) (inD true) := by
  intro pins s σ H x y v u Q I rv ru ⟨dx, dy, M, Qd, R, rx, ry, q, E⟩
  unfold inD at q
  split at q
  all_goals first
    | exact q.elim
    | (obtain ⟨as, h1⟩ := RepP.reads I _ x v rx rv
       obtain ⟨bs, h2⟩ := RepP.reads I _ y u ry ru
       first
         | exact SeqAt.notIn_tuple_reads h2 h1 (SeqAt.canLay_of_shaped q.2.1) (SeqAt.canLay_of_shaped q.1) (room_in q.1 hu) ⟨.bl _, H, I, rfl, E (.d _) _ _ _ (Keep.refl _ _) R (.bl _) q.2.2⟩
         | exact SeqAt.notIn_list_reads h2 h1 (SeqAt.canLay_of_shaped q.2.1) (SeqAt.canLay_of_shaped q.1) (room_in q.1 hu) ⟨.bl _, H, I, rfl, E (.d _) _ _ _ (Keep.refl _ _) R (.bl _) q.2.2⟩)
def isNone : PyData → Bool
  | .none => true
  | _ => false
def isND (neg : Bool) : DV → DV → Mem → DQ → Prop
  | .d a, .d .none, M, Q => Q (.d (.bool (if neg then !isNone a else isNone a))) M
  | .r _, .d .none, M, Q => Q (.d (.bool neg)) M
  | _, _, M, Q => False
theorem rep_non {K : PySem.W.Frag} {H : Hp} {M : Mem} {v : V} {a : PyData} (h : RepP K H M v a) : decide (v = .non) = isNone a := by
  cases h <;> rfl
theorem od_is : OpD X (compareOp .Is) (isND false) :=
  opR_imp op_isN fun x y H Q ⟨dx, dy, M, Qd, R, rx, ry, q, E⟩ => by
    unfold isND at q
    split at q
    · have ry : RepP _ _ _ _ _ := ry
      cases ry
      refine ⟨rfl, E (.d _) _ _ _ (Keep.refl _ _) R (.bl _) ?_⟩
      rw [rep_non (show RepP _ _ _ _ _ from rx)]
      exact q
    · have ry : RepP _ _ _ _ _ := ry
      cases ry
      have rx : x = _ := rx
      subst rx
      exact ⟨rfl, E (.d _) _ _ _ (Keep.refl _ _) R (.bl _) q⟩
    · exact q.elim
theorem od_isnot : OpD X (compareOp .IsNot) (isND true) :=
  opR_imp op_notN fun x y H Q ⟨dx, dy, M, Qd, R, rx, ry, q, E⟩ => by
    unfold isND at q
    split at q
    · have ry : RepP _ _ _ _ _ := ry
      cases ry
      refine ⟨rfl, E (.d _) _ _ _ (Keep.refl _ _) R (.bl _) ?_⟩
      rw [rep_non (show RepP _ _ _ _ _ from rx)]
      exact q
    · have ry : RepP _ _ _ _ _ := ry
      cases ry
      have rx : x = _ := rx
      subst rx
      exact ⟨rfl, E (.d _) _ _ _ (Keep.refl _ _) R (.bl _) q⟩
    · exact q.elim
variable {a b : Expr} {wa wb : WE} {pos : Pos}
theorem de_bin {op : Operator} {rd : R2D} (ho : OpD X (binaryOp op) rd) (ha : DE X a wa) (hb : DE X b wb) : DE X (.BinOp a op b pos) (wOp rd wa wb) := de_op ho simD ha hb
theorem de_rel {op : CmpOp} {rd : R2D} (ho : OpD X (compareOp op) rd) (ha : DE X a wa) (hb : DE X b wb) (hm : behindInMarks op b = false := by rfl) : DE X (.Compare a [op] [b] pos) (wOp rd wa wb) := de_cmp ho simD ha hb hm
theorem dt_rel {op : CmpOp} {rd : R2D} (ho : OpD X (compareOp op) rd) (ha : DE X a wa) (hb : DE X b wb) (hm : behindInMarks op b = false := by rfl) : DT X (.Compare a [op] [b] pos) (wB (wOp rd wa wb)) := dt_cmp ho simD ha hb hm
def wChain (rd rd' : R2D) (wa wb wc : WE) : WE := fun δ M Q => wa δ M fun x M1 => wb δ M1 fun y M2 => rd x y M2 fun z M3 => match z with
  | .d (.bool k) => if k = true then wc δ M3 fun c M4 => rd' y c M4 Q else Q (.d (.bool false)) M3
  | _ => False
theorem de_chain {op op' : CmpOp} {rd rd' : R2D} {c : Expr} {wc : WE} (ho : OpD X (compareOp op) rd) (ho' : OpD X (compareOp op') rd') (ha : DE X a wa) (hb : DE X b wb) (hc : DE X c wc)
    (hm : lastMarks [op, op'] [b, c] = false := by with_unfolding_all rfl) : DE X (.Compare a [op, op'] [b, c] pos) (wChain rd rd' wa wb wc) :=
  pe_imp (pe_chain ho ho' ha hb hc hm) fun σ H Q ⟨δ, M, Qd, S, R, h, E⟩ => by
    refine ⟨δ, M, _, S, R, h, fun d M1 v H1 k1 R1 r1 h1 => ?_⟩
    refine ⟨δ, M1, _, S.keep k1, R1, h1, fun e M2 u H2 k2 R2 r2 h2 => ?_⟩
    refine ⟨d, e, M2, _, R2, r1.keep k2, r2, h2, fun z M3 w3 H3 k3 R3 r3 h3 => ?_⟩
    split at h3
    · rename_i k
      refine ⟨k, RepP.bl_inv r3, ?_⟩
      by_cases hk : k = true
      · rw [if_pos hk] at h3 ⊢
        refine ⟨δ, M3, _, S.keep ((k1.trans k2).trans k3), R3, h3, fun f M4 w4 H4 k4 R4 r4 h4 => ?_⟩
        exact ⟨e, f, M4, _, R4, (r2.keep k3).keep k4, r4, h4, E.step (((k1.trans k2).trans k3).trans k4)⟩
      · rw [if_neg hk] at h3 ⊢
        exact E (.d _) _ _ _ ((k1.trans k2).trans k3) R3 (.bl _) h3
    · exact h3.elim

def isTru : PyData → Option Bool
  | .none => some false
  | .bool b => some b
  | .int i => some (i != 0)
  | .str x => some (x.length != 0)
  | .list xs => some (!xs.isEmpty)
  | .tuple xs => some (!xs.isEmpty)
  | .dict kvs => some (!kvs.isEmpty)
def wAndT (t u : WT) : WT := fun δ M Q => t δ M fun c M1 => if c = true then u δ M1 Q else Q false M1
def wOrT (t u : WT) : WT := fun δ M Q => t δ M fun c M1 => if c = true then Q true M1 else u δ M1 Q
def wNotT (t : WT) : WT := fun δ M Q => t δ M fun c M1 => Q (!c) M1
variable {tA tB' : WT} {rest : List Expr}
theorem dw_and1 (ha : DT X a tA) : DWh X (.BoolOp .And [a] pos) tA := pw_and1 ha
theorem dw_or1 (ha : DT X a tA) : DWh X (.BoolOp .Or [a] pos) tA := pw_or1 ha
theorem dw_and (ha : DT X a tA) (hb : DWh X (.BoolOp .And (b :: rest) pos) tB') : DWh X (.BoolOp .And (a :: b :: rest) pos) (wAndT tA tB') :=
  pw_imp (pw_and ha hb) fun σ H Q ⟨δ, M, Qd, S, R, h, E⟩ => ⟨δ, M, _, S, R, h, fun c M1 H1 k1 R1 h1 => by
    by_cases hc : c = true
    · rw [if_pos hc] at h1 ⊢
      exact ⟨δ, M1, Qd, S.keep k1, R1, h1, fun e M2 H2 k2 R2 h2 => E e M2 H2 (k1.trans k2) R2 h2⟩
    · rw [if_neg hc] at h1 ⊢
      exact E _ _ _ k1 R1 h1⟩
theorem dw_or (ha : DT X a tA) (hb : DWh X (.BoolOp .Or (b :: rest) pos) tB') : DWh X (.BoolOp .Or (a :: b :: rest) pos) (wOrT tA tB') :=
  pw_imp (pw_or ha hb) fun σ H Q ⟨δ, M, Qd, S, R, h, E⟩ => ⟨δ, M, _, S, R, h, fun c M1 H1 k1 R1 h1 => by
    by_cases hc : c = true
    · rw [if_pos hc] at h1 ⊢
      exact E _ _ _ k1 R1 h1
    · rw [if_neg hc] at h1 ⊢
      exact ⟨δ, M1, Qd, S.keep k1, R1, h1, fun e M2 H2 k2 R2 h2 => E e M2 H2 (k1.trans k2) R2 h2⟩⟩
theorem dt_w {e : Expr} {t : WT} (h : DWh X e t) : DT X e t := PW.pt h
theorem dt_not (ha : DT X a tA) : DT X (.UnaryOp .Not a pos) (wNotT tA) :=
  pt_imp (pt_not ha) fun σ H Q ⟨δ, M, Qd, S, R, h, E⟩ => ⟨δ, M, _, S, R, h, fun c M1 H1 k1 R1 h1 => E _ _ _ k1 R1 h1⟩
def bOf (k : Bool → Mem → Prop) : DQ := fun x M => match x with
  | .d (.bool c) => k c M
  | _ => False
def wAndV (wa wb : WE) : WE := fun δ M Q => wa δ M (bOf fun c M1 => if c = true then wb δ M1 Q else Q (.d (.bool false)) M1)
def wOrV (wa wb : WE) : WE := fun δ M Q => wa δ M (bOf fun c M1 => if c = true then Q (.d (.bool true)) M1 else wb δ M1 Q)
def wNotV (wa : WE) : WE := fun δ M Q => wa δ M (bOf fun c M1 => Q (.d (.bool (!c))) M1)
theorem bOf_inv {K : PySem.W.Frag} {H : Hp} {M : Mem} {k : Bool → Mem → Prop} {x : DV} {v : V} (h : bOf k x M) (r : Rep K H M v x) : ∃ c, v = .bl c ∧ k c M := by
  unfold bOf at h
  split at h
  · exact ⟨_, RepP.bl_inv r, h⟩
  · exact h.elim
theorem de_one {op} {w : WE} (h : DE X a w) : DE X (.BoolOp op [a] pos) w := pe_one h
theorem de_and (ha : DE X a wa) (hb : DE X (.BoolOp .And (b :: rest) pos) wb) : DE X (.BoolOp .And (a :: b :: rest) pos) (wAndV wa wb) :=
  pe_imp (pe_and ha hb) fun σ H Q ⟨δ, M, Qd, S, R, h, E⟩ => ⟨δ, M, _, S, R, h, fun d M1 v H1 k1 R1 r1 h1 => by
    obtain ⟨c, e, h1⟩ := bOf_inv h1 r1
    refine ⟨c, e, ?_⟩
    by_cases hc : c = true
    · rw [if_pos hc] at h1 ⊢
      exact ⟨δ, M1, Qd, S.keep k1, R1, h1, E.step k1⟩
    · rw [if_neg hc] at h1 ⊢
      exact E (.d _) _ _ _ k1 R1 (.bl _) h1⟩
theorem de_or (ha : DE X a wa) (hb : DE X (.BoolOp .Or (b :: rest) pos) wb) : DE X (.BoolOp .Or (a :: b :: rest) pos) (wOrV wa wb) :=
  pe_imp (pe_or ha hb) fun σ H Q ⟨δ, M, Qd, S, R, h, E⟩ => ⟨δ, M, _, S, R, h, fun d M1 v H1 k1 R1 r1 h1 => by
    obtain ⟨c, e, h1⟩ := bOf_inv h1 r1
    refine ⟨c, e, ?_⟩
    by_cases hc : c = true
    · rw [if_pos hc] at h1 ⊢
      exact E (.d _) _ _ _ k1 R1 (.bl _) h1
    · rw [if_neg hc] at h1 ⊢
      exact ⟨δ, M1, Qd, S.keep k1, R1, h1, E.step k1⟩⟩
theorem de_not (ha : DE X a wa) : DE X (.UnaryOp .Not a pos) (wNotV wa) :=
  pe_imp (pe_not ha) fun σ H Q ⟨δ, M, Qd, S, R, h, E⟩ => ⟨δ, M, _, S, R, h, fun d M1 v H1 k1 R1 r1 h1 => by
    obtain ⟨c, e, h1⟩ := bOf_inv h1 r1
    exact ⟨c, e, E (.d _) _ _ _ k1 R1 (.bl _) h1⟩⟩
def wIf (t : WT) (wa wb : WE) : WE := fun δ M Q => t δ M fun c M1 => if c = true then wa δ M1 Q else wb δ M1 Q
theorem de_ifExp {c : Expr} (hc : DT X c tA) (ha : DE X a wa) (hb : DE X b wb) : DE X (.IfExp c a b pos) (wIf tA wa wb) :=
  pe_imp (pe_ifExp hc ha hb) fun σ H Q ⟨δ, M, Qd, S, R, h, E⟩ => ⟨δ, M, _, S, R, h, fun c M1 H1 k1 R1 h1 => by
    by_cases hc : c = true
    · rw [if_pos hc] at h1 ⊢
      exact ⟨δ, M1, Qd, S.keep k1, R1, h1, E.step k1⟩
    · rw [if_neg hc] at h1 ⊢
      exact ⟨δ, M1, Qd, S.keep k1, R1, h1, E.step k1⟩⟩

def wNil : WA := fun _ M Q => Q [] M
def wCons (w : WE) (wr : WA) : WA := fun δ M Q => w δ M fun x M1 => wr δ M1 fun xs M2 => Q (x :: xs) M2
variable {e : Expr} {es : List Expr} {we : WE} {wr : WA}
theorem da_nil : DA X [] wNil := pa_imp pa_nil fun σ H Q ⟨δ, M, Qd, S, R, h, E⟩ => E [] M [] H (Keep.refl _ _) R .nil h
theorem da_cons (ha : DE X e we) (hr : DA X es wr) (hs : starEach (e :: es) X.env = (false, eval e X.env) :: starEach es X.env := by rfl) : DA X (e :: es) (wCons we wr) :=
  pa_imp (pa_cons ha hr hs) fun σ H Q ⟨δ, M, Qd, S, R, h, E⟩ => ⟨δ, M, _, S, R, h, fun d M1 v H1 k1 R1 r1 h1 =>
    ⟨δ, M1, _, S.keep k1, R1, h1, fun ds M2 vs H2 k2 R2 r2 h2 => E (d :: ds) M2 (v :: vs) H2 (k1.trans k2) R2 (.cons (r1.keep k2) r2) h2⟩⟩
def mkD (g : List PyData → PyData) (wr : WA) : WE := fun δ M Q => wr δ M fun ds M1 => match allD ds with
  | some xs => xs.length ≤ sizeLine ∧ Q (.d (g xs)) M1
  | none => False
theorem de_tup {x1} (h : DA X es wr) : DE X (.Tuple es x1 pos) (mkD .tuple wr) :=
  pe_imp (pe_tup h) fun σ H Q ⟨δ, M, Qd, S, R, h, E⟩ => ⟨δ, M, _, S, R, h, fun ds M1 vs H1 k1 R1 r1 h1 => by
    split at h1
    · rename_i xs e
      rw [allD_eq e] at r1
      have r2 := RepL.toA r1
      exact ⟨by rw [r2.length]; exact h1.1, fun p hp => (E.step k1).tup R1 r2 hp h1.2⟩
    · exact h1.elim⟩
theorem de_lst (h : DA X es wr) : DE X (.List es pos) (mkD .list wr) :=
  pe_imp (pe_lst h) fun σ H Q ⟨δ, M, Qd, S, R, h, E⟩ => ⟨δ, M, _, S, R, h, fun ds M1 vs H1 k1 R1 r1 h1 => by
    split at h1
    · rename_i xs e
      rw [allD_eq e] at r1
      have r2 := RepL.toA r1
      exact ⟨by rw [r2.length]; exact h1.1, fun p hp => (E.step k1).lst R1 r2 hp h1.2⟩
    · exact h1.elim⟩
def wLstM (wr : WA) : WE := fun δ M Q => wr δ M fun ds M1 => ds.length ≤ sizeLine ∧ ∀ p, M1 p = none → Q (.r p) (mupd M1 p (.lst ds))
def wTupM (wr : WA) : WE := fun δ M Q => wr δ M fun ds M1 => ds.length ≤ sizeLine ∧ ∀ p, M1 p = none → Q (.r p) (mupd M1 p (.tup ds))
theorem de_lstM (h : DA X es wr) : DE X (.List es pos) (wLstM wr) :=
  pe_imp (pe_lst h) fun σ H Q ⟨δ, M, Qd, S, R, h, E⟩ => ⟨δ, M, _, S, R, h, fun ds M1 vs H1 k1 R1 r1 h1 =>
    ⟨by rw [Paired.length r1]; exact h1.1, fun p hp => E (.r p) _ _ _ (k1.trans (Keep.newM R1 hp)) (R1.newM (m := .lst ds) hp ⟨vs, upd_same, r1.keep (Keep.newM R1 hp)⟩) rfl (h1.2 p (R1.no hp))⟩⟩
theorem de_tupM {x1} (h : DA X es wr) : DE X (.Tuple es x1 pos) (wTupM wr) :=
  pe_imp (pe_tup h) fun σ H Q ⟨δ, M, Qd, S, R, h, E⟩ => ⟨δ, M, _, S, R, h, fun ds M1 vs H1 k1 R1 r1 h1 =>
    ⟨by rw [Paired.length r1]; exact h1.1, fun p hp => E (.r p) _ _ _ (k1.trans (Keep.newM R1 hp)) (R1.newM (m := .tup ds) hp ⟨vs, upd_same, r1.keep (Keep.newM R1 hp)⟩) rfl (h1.2 p (R1.no hp))⟩⟩
theorem de_dct0 : DE X (.Dict [] [] pos) (wC (.d (.dict []))) :=
  pe_imp pe_dnewK fun σ H Q ⟨δ, M, Qd, S, R, h, E⟩ => fun p hp => E (.d (.dict [])) _ _ _ (Keep.new R hp) (R.new hp) (.dct0 upd_same (R.no hp)) h

def moL : MO → List DV
  | .lst xs => xs
  | .tup xs => xs
def ixD : DV → DV → Mem → DQ → Prop
  | .d (.tuple xs), .d (.int i), M, Q => optD (L2.atI xs i) fun v => Q (.d v) M
  | .d (.list xs), .d (.int i), M, Q => optD (L2.atI xs i) fun v => Q (.d v) M
  | .d (.str z), .d (.int i), M, Q => z.length ≤ sizeLine ∧ optD (L2.atI z.cps.toList i) fun c => Q (.d (.str ⟨#[c]⟩)) M
  | .r a, .d (.int i), M, Q => optD (M a) fun o => optD (L2.atI (moL o) i) fun v => Q v M
  | _, _, M, Q => False
theorem RepL.get {K : PySem.W.Frag} {H : Hp} {M : Mem} : ∀ {vs : List V} {ds : List DV} {i : Nat} {d : DV}, RepL K H M vs ds → ds[i]? = some d → ∃ v, vs[i]? = some v ∧ Rep K H M v d
  | _, [], _, _, _, e => by simp at e
  | _, d :: ds, 0, _, h, e => by
    cases h with
    | cons h1 h2 =>
      simp at e
      subst e
      exact ⟨_, rfl, h1⟩
  | _, d :: ds, i + 1, _, h, e => by
    cases h with
    | cons h1 h2 =>
      obtain ⟨v, a, b⟩ := RepL.get (i := i) h2 (by simpa using e)
      exact ⟨v, by simpa using a, b⟩
theorem RepL.atI {K : PySem.W.Frag} {H : Hp} {M : Mem} {vs : List V} {ds : List DV} {i : Int} {d : DV} (h : RepL K H M vs ds) (e : L2.atI ds i = some d) : ∃ v, L2.atI vs i = some v ∧ Rep K H M v d := by
  unfold L2.atI at e ⊢
  rw [Paired.length h]
  cases q : ixN ds.length i with
  | none => rw [q] at e; cases e
  | some j =>
    rw [q] at e
    exact RepL.get h e
theorem ix_imp {r r' : R2} (h : IxR X r) (i : ∀ x y H Q, r' x y H Q → r x y H Q) : IxR X r' := fun value slice pins s σ H x y v u Q I rx ry q => h value slice pins s σ H x y v u Q I rx ry (i _ _ _ _ q)
theorem xd_ix : IxR X (rD X.K ixD) :=
  ix_imp ix_seq fun x y H Q ⟨dx, dy, M, Qd, R, rx, ry, q, E⟩ => by
    unfold ixD at q
    split at q
    · rename_i xs i
      obtain ⟨a, vs, e1, s1, r1⟩ := RepP.tup_inv rx
      obtain ⟨w, hw, q⟩ := optD_inv q
      obtain ⟨v, hv, rv⟩ := r1.atI hw
      exact .inr (.inl ⟨a, vs, i, v, e1, RepP.int_inv ry, s1, hv, E (.d w) _ _ _ (Keep.refl _ _) R rv q⟩)
    · rename_i xs i
      obtain ⟨a, vs, e1, s1, _, r1⟩ := RepP.lst_inv rx
      obtain ⟨w, hw, q⟩ := optD_inv q
      obtain ⟨v, hv, rv⟩ := r1.atI hw
      exact .inl ⟨a, vs, i, v, e1, RepP.int_inv ry, SqL.of s1, hv, E (.d w) _ _ _ (Keep.refl _ _) R rv q⟩
    · rename_i z i
      obtain ⟨hz, q⟩ := q
      obtain ⟨c, hc, q⟩ := optD_inv q
      exact .inr (.inr ⟨z, i, c, RepP.str_inv rx, RepP.int_inv ry, hz, hc, E (.d _) _ _ _ (Keep.refl _ _) R (.str _) q⟩)
    · rename_i a i
      have rx : x = .ref a := rx
      obtain ⟨o, hm, q1⟩ := optD_inv q
      obtain ⟨w, hw, q2⟩ := optD_inv q1
      clear q q1
      cases o with
      | lst xs =>
        obtain ⟨vs, hv, rl⟩ := R a _ hm
        obtain ⟨v, hv', rv⟩ := RepL.atI rl hw
        exact .inl ⟨a, vs, i, v, rx, RepP.int_inv ry, SqL.of hv, hv', E w _ _ _ (Keep.refl _ _) R rv q2⟩
      | tup xs =>
        obtain ⟨vs, hv, rl⟩ := R a _ hm
        obtain ⟨v, hv', rv⟩ := RepL.atI rl hw
        exact .inr (.inl ⟨a, vs, i, v, rx, RepP.int_inv ry, SqT.of hv, hv', E w _ _ _ (Keep.refl _ _) R rv q2⟩)
    · exact q.elim
theorem de_ix (ha : DE X a wa) (hb : DE X b wb) (hs : PlainIx b := by exact fun _ _ => rfl) : DE X (.Subscript a b pos) (wOp ixD wa wb) :=
  pe_imp (pe_ix xd_ix ha hb hs) fun _ _ _ h => lift2 simD h

def wNoPart : SD → Mem → (Option Int → Mem → Prop) → Prop := fun _ M Q => Q none M
def wPart (w : WE) : SD → Mem → (Option Int → Mem → Prop) → Prop := fun δ M Q => w δ M fun x M1 => match x with
  | .d (.int i) => Q (some i) M1
  | _ => False
def liftO (K : PySem.W.Frag) (w : SD → Mem → (Option Int → Mem → Prop) → Prop) : TO := fun σ H Q => ∃ δ M Qd, RepS K H M σ δ ∧ RelM K H M ∧ w δ M Qd ∧ ∀ b M' H', Keep H M H' M' → RelM K H' M' → Qd b M' → Q b H'
abbrev DO (X : Cx) (o : Option Expr) (w : SD → Mem → (Option Int → Mem → Prop) → Prop) : Prop := PO X o (liftO X.K w)
theorem po_imp {o : Option Expr} {t t' : TO} (h : PO X o t) (i : ∀ σ H Q, t' σ H Q → t σ H Q) : PO X o t' := ⟨fun pins s σ H Q I q => h.run pins s σ H Q I (i σ H Q q)⟩
theorem do_none : DO X none wNoPart := po_imp po_none fun σ H Q ⟨δ, M, Qd, S, R, h, E⟩ => E _ _ _ (Keep.refl _ _) R h
theorem do_some (h : DE X e we) : DO X (some e) (wPart we) := po_imp (po_some h) fun σ H Q ⟨δ, M, Qd, S, R, h, E⟩ => ⟨δ, M, _, S, R, h, fun d M1 v H1 k1 R1 r1 h1 => by
  split at h1
  · exact ⟨_, RepP.int_inv r1, E _ _ _ k1 R1 h1⟩
  · exact h1.elim⟩
def cutD {α : Type} (xs : List α) (lo hi : Option Int) : List α := (xs.drop (HT.sIx xs.length 0 lo)).take (HT.sIx xs.length xs.length hi - HT.sIx xs.length 0 lo)
def slD : DV → Option Int → Option Int → Mem → DQ → Prop
  | .d (.tuple xs), lo, hi, M, Q => Q (.d (.tuple (cutD xs lo hi))) M
  | .d (.list xs), lo, hi, M, Q => Q (.d (.list (cutD xs lo hi))) M
  | .s ns, lo, hi, M, Q => Q (.d (.list ((cutD ns lo hi).map .int))) M
  | .r a, lo, hi, M, Q => optD (lstMD M a) fun xs => Q (.d (.list (cutD xs lo hi))) M
  | _, _, _, _, _ => False
def wSl (we : WE) (wl wh : SD → Mem → (Option Int → Mem → Prop) → Prop) : WE := fun δ M Q => we δ M fun x M1 => wl δ M1 fun l M2 => wh δ M2 fun u M3 => slD x l u M3 Q
theorem RepA.cut {K : PySem.W.Frag} {H : Hp} {M : Mem} {vs : List V} {ds : List PyData} (h : RepA K H M vs ds) (lo hi : Option Int) : RepA K H M (cutV vs lo hi) (cutD ds lo hi) := by
  unfold cutV cutD
  rw [h.length]
  exact (h.drop _).take _
theorem RepA.ints {K : PySem.W.Frag} {H : Hp} {M : Mem} : ∀ ns : List Int, RepA K H M (ns.map V.int) (ns.map PyData.int)
  | [] => .nil
  | n :: ns => .cons (.int n) (RepA.ints ns)
theorem cutV_ints (ns : List Int) (lo hi : Option Int) : cutV (ns.map V.int) lo hi = (cutD ns lo hi).map V.int := by
  unfold cutV cutD
  rw [List.length_map, ← List.map_drop, ← List.map_take]
def rSlAny (K : PySem.W.Frag) : V → Option Int → Option Int → Hp → VK → Prop := fun x lo hi H Q => rSlA K x lo hi H Q ∨ rSlL K x lo hi H Q
theorem sIx_full {n : Nat} {lo hi : Option Int} (h : HT.sIx n 0 lo = 0 ∧ HT.sIx n n hi = n) {α : Type} (xs : List α) (hl : xs.length = n) : cutD xs lo hi = xs := by
  unfold cutD
  rw [hl, h.1, h.2, ← hl]
  simp
theorem de_slice {lo hi : Option Expr} {wl wh : SD → Mem → (Option Int → Mem → Prop) → Prop} {p2 : Pos} (he : DE X e we) (hl : DO X lo wl) (hu : DO X hi wh) : DE X (.Subscript e (.Slice lo hi none p2) pos) (wSl we wl wh) :=
  pe_imp (pe_slice (sl_tupA.or sl_list) he hl hu) fun σ H Q ⟨δ, M, Qd, S, R, h, E⟩ => ⟨δ, M, _, S, R, h, fun d M1 v H1 k1 R1 r1 h1 =>
    ⟨δ, M1, _, S.keep k1, R1, h1, fun l M2 H2 k2 R2 h2 => ⟨δ, M2, _, (S.keep k1).keep k2, R2, h2, fun u M3 H3 k3 R3 h3 => by
      have E3 := E.step ((k1.trans k2).trans k3)
      have r3 := (r1.keep k2).keep k3
      unfold slD at h3
      split at h3
      · rename_i xs
        have r3 : RepP _ _ _ _ _ := r3
        obtain ⟨a, vs, e1, s1, ra⟩ := RepP.tup_inv r3
        subst e1
        refine .inl ⟨a, vs, rfl, s1, fun z => ?_, fun _ p hp => E3.tup R3 (ra.cut l u) hp h3⟩
        refine E3 (.d (.tuple xs)) _ _ _ (Keep.refl _ _) R3 r3 ?_
        rw [sIx_full z xs ra.length.symm] at h3
        exact h3
      · rename_i xs
        have r3 : RepP _ _ _ _ _ := r3
        obtain ⟨a, vs, e1, s1, _, ra⟩ := RepP.lst_inv r3
        exact .inr ⟨a, vs, e1, SqL.of s1, fun p hp => E3.lst R3 (ra.cut l u) hp h3⟩
      · rename_i ns
        obtain ⟨a, e1, s1⟩ := r3
        refine .inr ⟨a, ns.map V.int, e1, ?_, fun p hp => ?_⟩
        · rcases s1 with ⟨s1, _⟩ | s1
          · exact .inl s1
          · exact .inr s1
        · rw [cutV_ints]
          exact E3.lst R3 (RepA.ints _) hp h3
      · rename_i a
        obtain ⟨xs, e, h3⟩ := optD_inv h3
        obtain ⟨vs, hv, ra⟩ := lstMD_inv R3 e
        exact .inr ⟨a, vs, r3, SqL.of hv, fun p hp => E3.lst R3 (ra.cut l u) hp h3⟩
      · exact h3.elim⟩⟩⟩
end
end DL
namespace DL
open PySem PySem.Spec L2
open PyProof.Rows hiding St

abbrev RCD := List DV → Mem → DQ → Prop
def rDC (K : PySem.W.Frag) (rd : RCD) : List V → Hp → VK → Prop := fun xs H Q => ∃ ds M Qd, RelM K H M ∧ RepL K H M xs ds ∧ rd ds M Qd ∧ EndD K H M Qd Q
def wCB (rd : RCD) (wr : WA) : WE := fun δ M Q => wr δ M fun ds M1 => rd ds M1 Q
abbrev CallD (X : Cx) (f : Value) (rd : RCD) : Prop := CallR X f (rDC X.K rd)
section
variable {X : Cx} {x : Str} {p pos : Pos} {e : Expr} {es : List Expr} {wr : WA} {we : WE} {id T : String} {rd : RCD}
theorem callR_imp {f : Value} {r r' : List V → Hp → VK → Prop} (h : CallR X f r) (i : ∀ xs H Q, r' xs H Q → r xs H Q) : CallR X f r' := fun pins s σ H xs us Q I rs q => h pins s σ H xs us Q I rs (i _ _ _ q)
theorem liftCB {K : PySem.W.Frag} {σ : St} {H : Hp} {Q : VK} (h : lift K (wCB rd wr) σ H Q) : tCB (rDC K rd) (liftA K wr) σ H Q := by
  obtain ⟨δ, M, Qd, S, R, h, E⟩ := h
  exact ⟨δ, M, _, S, R, h, fun ds M1 vs H1 k1 R1 r1 h1 => ⟨ds, M1, Qd, R1, r1, h1, E.step k1⟩⟩
theorem de_callB (hc : CallD X (.builtin id) rd) (hg : Gl X x) (hm : X.mg x = none) (hv : bootBuiltins x = some (.builtin id)) (ha : DA X (e :: es) wr) (hn : x ≠ "__name__" := by decide) (hdb : (x == ("__debug__" : Str)) = false := by decide)
    (he : starEach (e :: es) X.env = (false, eval e X.env) :: starEach es X.env := by rfl) (hpl : (backTo pos (starEach es X.env)).any (·.1) = false := by rfl) : DE X (.Call (.Name x p) (e :: es) [] pos) (wCB rd wr) :=
  pe_imp (pe_callB hc hg hm hv ha hn hdb he hpl) fun _ _ _ h => liftCB h
theorem de_callTy (hc : CallD X (.type T) rd) (hg : Gl X x) (hm : X.mg x = none) (hv : bootBuiltins x = some (.type T)) (ha : DA X (e :: es) wr) (hn : x ≠ "__name__" := by decide) (hdb : (x == ("__debug__" : Str)) = false := by decide)
    (he : starEach (e :: es) X.env = (false, eval e X.env) :: starEach es X.env := by rfl) (hpl : (backTo pos (starEach es X.env)).any (·.1) = false := by rfl) : DE X (.Call (.Name x p) (e :: es) [] pos) (wCB rd wr) :=
  pe_imp (pe_callTy hc hg hm hv ha hn hdb he hpl) fun _ _ _ h => liftCB h
def lenD : List DV → Mem → DQ → Prop
  | [.d (.str z)], M, Q => z.length ≤ sizeLine ∧ Q (.d (.int z.length)) M
  | [.d (.tuple xs)], M, Q => Q (.d (.int xs.length)) M
  | [.d (.list xs)], M, Q => Q (.d (.int xs.length)) M
  | [.r a], M, Q => optD (M a) fun o => Q (.d (.int (moL o).length)) M
  | _, M, Q => False
theorem one_inv {K : PySem.W.Frag} {H : Hp} {M : Mem} {xs : List V} {d : DV} (r : RepL K H M xs [d]) : ∃ v, xs = [v] ∧ Rep K H M v d := by
  cases r with
  | cons a b => cases b; exact ⟨_, rfl, a⟩
theorem two_inv {K : PySem.W.Frag} {H : Hp} {M : Mem} {xs : List V} {d e : DV} (r : RepL K H M xs [d, e]) : ∃ v u, xs = [v, u] ∧ Rep K H M v d ∧ Rep K H M u e := by
  cases r with
  | cons a b =>
    obtain ⟨u, rfl, c⟩ := one_inv b
    exact ⟨_, _, rfl, a, c⟩
theorem cd_len : CallD X (.builtin "len") lenD :=
  callR_imp call_len fun xs H Q ⟨ds, M, Qd, R, r, h, E⟩ => by
    have fin : ∀ (n : Nat), Qd (.d (.int n)) M → Q (.int n) H := fun n q => E (.d _) _ _ _ (Keep.refl _ _) R (.int _) q
    unfold lenD at h
    split at h
    · obtain ⟨v, rfl, rv⟩ := one_inv r
      have := RepP.str_inv rv
      subst this
      exact ⟨_, _, rfl, ⟨h.1, rfl⟩, fin _ h.2⟩
    · rename_i zs
      obtain ⟨v, rfl, rv⟩ := one_inv r
      obtain ⟨a, vs, e1, s1, ra⟩ := RepP.tup_inv rv
      subst e1
      exact ⟨_, zs.length, rfl, .inr ⟨_, s1, by rw [ra.length]⟩, fin _ h⟩
    · rename_i zs
      obtain ⟨v, rfl, rv⟩ := one_inv r
      obtain ⟨a, vs, e1, s1, _, ra⟩ := RepP.lst_inv rv
      subst e1
      exact ⟨_, zs.length, rfl, .inl ⟨_, SqL.of s1, by rw [ra.length]⟩, fin _ h⟩
    · rename_i a
      obtain ⟨v, rfl, rv⟩ := one_inv r
      have rv : v = .ref a := rv
      subst rv
      obtain ⟨o, hm, h⟩ := optD_inv h
      cases o with
      | lst zs =>
        obtain ⟨vs, hv, rl⟩ := R a _ hm
        exact ⟨_, zs.length, rfl, .inl ⟨_, SqL.of hv, by rw [Paired.length rl]⟩, fin _ h⟩
      | tup zs =>
        obtain ⟨vs, hv, rl⟩ := R a _ hm
        exact ⟨_, zs.length, rfl, .inr ⟨_, SqT.of hv, by rw [Paired.length rl]⟩, fin _ h⟩
    · exact h.elim
def allB : List PyData → Option (List Bool)
  | [] => some []
  | .bool b :: r => (allB r).map (b :: ·)
  | _ :: _ => none
theorem allB_eq : ∀ {xs : List PyData} {bs : List Bool}, allB xs = some bs → xs = bs.map PyData.bool
  | [], _, h => by cases h; rfl
  | .bool b :: r, _, h => by
    unfold allB at h
    obtain ⟨l, e, rfl⟩ := Option.map_eq_some_iff.mp h
    rw [allB_eq e]
    rfl
  | .none :: _, _, h => by cases h
  | .int _ :: _, _, h => by cases h
  | .str _ :: _, _, h => by cases h
  | .list _ :: _, _, h => by cases h
  | .tuple _ :: _, _, h => by cases h
  | .dict _ :: _, _, h => by cases h
theorem allB_map : ∀ bs : List Bool, allB (bs.map PyData.bool) = some bs
  | [] => rfl
  | b :: bs => by show (allB (bs.map PyData.bool)).map (b :: ·) = _; rw [allB_map bs]; rfl
theorem RepA.bools {K : PySem.W.Frag} {H : Hp} {M : Mem} : ∀ {bs : List Bool} {vs : List V}, RepA K H M vs (bs.map PyData.bool) → vs = bs.map V.bl
  | [], _, h => by cases h; rfl
  | b :: bs, _, h => by
    cases h with
    | cons h1 h2 => rw [RepP.bl_inv h1, h2.bools]; rfl
def allQ (f : List Bool → Bool) : List DV → Mem → DQ → Prop
  | [.d (.list xs)], M, Q => optD (allB xs) fun bs => Q (.d (.bool (f bs))) M
  | _, M, Q => False
theorem cd_all (hc : X.calm = true) : CallD X (.builtin "all") (allQ fun bs => bs.all fun b => b) :=
  callR_imp (cr_all hc) fun xs H Q ⟨ds, M, Qd, R, r, h, E⟩ => by
    unfold allQ at h
    split at h
    · obtain ⟨v, rfl, rv⟩ := one_inv r
      obtain ⟨a, vs, e1, s1, _, ra⟩ := RepP.lst_inv rv
      subst e1
      obtain ⟨bs, e, h⟩ := optD_inv h
      rw [allB_eq e] at ra
      have := ra.bools
      subst this
      exact ⟨_, bs, rfl, SqL.of s1, E (.d _) _ _ _ (Keep.refl _ _) R (.bl _) h⟩
    · exact h.elim
theorem cd_any (hc : X.calm = true) : CallD X (.builtin "any") (allQ fun bs => bs.any fun b => b) :=
  callR_imp (cr_any hc) fun xs H Q ⟨ds, M, Qd, R, r, h, E⟩ => by
    unfold allQ at h
    split at h
    · obtain ⟨v, rfl, rv⟩ := one_inv r
      obtain ⟨a, vs, e1, s1, _, ra⟩ := RepP.lst_inv rv
      subst e1
      obtain ⟨bs, e, h⟩ := optD_inv h
      rw [allB_eq e] at ra
      have := ra.bools
      subst this
      exact ⟨_, bs, rfl, SqL.of s1, E (.d _) _ _ _ (Keep.refl _ _) R (.bl _) h⟩
    · exact h.elim
def listD : List DV → Mem → DQ → Prop
  | [.d (.list xs)], M, Q => Q (.d (.list xs)) M
  | [.d (.tuple xs)], M, Q => Q (.d (.list xs)) M
  | [.r a], M, Q => optD (lstMD M a) fun xs => Q (.d (.list xs)) M
  | _, M, Q => False
def tupleD : List DV → Mem → DQ → Prop
  | [.d (.list xs)], M, Q => Q (.d (.tuple xs)) M
  | [.d (.tuple xs)], M, Q => Q (.d (.tuple xs)) M
  | [.r a], M, Q => optD (lstMD M a) fun ys => Q (.d (.tuple ys)) M
  | _, M, Q => False
def listM : List DV → Mem → DQ → Prop
  | [.d (.list xs)], M, Q => ∀ p, M p = none → Q (.r p) (mupd M p (.lst (xs.map .d)))
  | [.d (.tuple xs)], M, Q => ∀ p, M p = none → Q (.r p) (mupd M p (.lst (xs.map .d)))
  | [.r a], M, Q => optD (lstMD M a) fun xs => ∀ p, M p = none → Q (.r p) (mupd M p (.lst (xs.map .d)))
  | _, M, Q => False
theorem cd_list : CallD X (.type "list") listD :=
  callR_imp call_list_of fun xs H Q ⟨ds, M, Qd, R, r, h, E⟩ => by
    unfold listD at h
    split at h
    · obtain ⟨v, rfl, rv⟩ := one_inv r
      obtain ⟨a, vs, e1, s1, _, ra⟩ := RepP.lst_inv rv
      subst e1
      exact ⟨_, vs, rfl, .inl (SqL.of s1), fun p hp => E.lst R ra hp h⟩
    · obtain ⟨v, rfl, rv⟩ := one_inv r
      obtain ⟨a, vs, e1, s1, ra⟩ := RepP.tup_inv rv
      subst e1
      exact ⟨_, vs, rfl, .inr s1, fun p hp => E.lst R ra hp h⟩
    · rename_i a
      obtain ⟨v, rfl, rv⟩ := one_inv r
      have rv : v = .ref a := rv
      subst rv
      obtain ⟨xs, e, h⟩ := optD_inv h
      obtain ⟨vs, hv, ra⟩ := lstMD_inv R e
      exact ⟨_, vs, rfl, .inl (SqL.of hv), fun p hp => E.lst R ra hp h⟩
    · exact h.elim
theorem EndD.lstM {K : PySem.W.Frag} {H : Hp} {M : Mem} {Qd : DQ} {Q : VK} {xs : List V} {ds : List DV} {p : Addr} (E : EndD K H M Qd Q) (R : RelM K H M) (r : RepL K H M xs ds) (hp : H p = none) (q : Qd (.r p) (mupd M p (.lst ds))) : Q (.ref p) (upd H p (.lst xs)) :=
  E (.r p) _ _ _ (Keep.newM R hp) (R.newM (m := .lst ds) hp ⟨xs, upd_same, r.keep (Keep.newM R hp)⟩) rfl q
theorem cd_listM : CallD X (.type "list") listM :=
  callR_imp call_list_of fun xs H Q ⟨ds, M, Qd, R, r, h, E⟩ => by
    unfold listM at h
    split at h
    · obtain ⟨v, rfl, rv⟩ := one_inv r
      obtain ⟨a, vs, e1, s1, _, ra⟩ := RepP.lst_inv rv
      subst e1
      exact ⟨_, vs, rfl, .inl (SqL.of s1), fun p hp => E.lstM R ra.toL hp (h p (R.no hp))⟩
    · obtain ⟨v, rfl, rv⟩ := one_inv r
      obtain ⟨a, vs, e1, s1, ra⟩ := RepP.tup_inv rv
      subst e1
      exact ⟨_, vs, rfl, .inr s1, fun p hp => E.lstM R ra.toL hp (h p (R.no hp))⟩
    · rename_i a
      obtain ⟨v, rfl, rv⟩ := one_inv r
      have rv : v = .ref a := rv
      subst rv
      obtain ⟨xs, e, h⟩ := optD_inv h
      obtain ⟨vs, hv, ra⟩ := lstMD_inv R e
      exact ⟨_, vs, rfl, .inl (SqL.of hv), fun p hp => E.lstM R ra.toL hp (h p (R.no hp))⟩
    · exact h.elim
theorem cd_tuple : CallD X (.type "tuple") tupleD :=
  callR_imp call_tuple_of fun xs H Q ⟨ds, M, Qd, R, r, h, E⟩ => by
    unfold tupleD at h
    split at h
    · obtain ⟨v, rfl, rv⟩ := one_inv r
      obtain ⟨a, vs, e1, s1, _, ra⟩ := RepP.lst_inv rv
      subst e1
      exact ⟨_, vs, rfl, .inl ⟨SqL.of s1, fun p hp => E.tup R ra hp h⟩⟩
    · obtain ⟨v, rfl, rv⟩ := one_inv r
      have rv : RepP _ _ _ _ _ := rv
      obtain ⟨a, vs, e1, s1, ra⟩ := RepP.tup_inv rv
      subst e1
      exact ⟨_, vs, rfl, .inr ⟨s1, E (.d _) _ _ _ (Keep.refl _ _) R rv h⟩⟩
    · rename_i a
      obtain ⟨v, rfl, rv⟩ := one_inv r
      have rv : v = .ref a := rv
      subst rv
      obtain ⟨ys, e, h⟩ := optD_inv h
      obtain ⟨vs, hv, ra⟩ := lstMD_inv R e
      exact ⟨_, vs, rfl, .inl ⟨SqL.of hv, fun p hp => E.tup R ra hp h⟩⟩
    · exact h.elim
def intD : List DV → Mem → DQ → Prop
  | [.d (.int i)], M, Q => Q (.d (.int i)) M
  | _, M, Q => False
theorem cd_int : CallD X (.type "int") intD :=
  callR_imp call_int1 fun xs H Q ⟨ds, M, Qd, R, r, h, E⟩ => by
    unfold intD at h
    split at h
    · obtain ⟨v, rfl, rv⟩ := one_inv r
      have := RepP.int_inv rv
      subst this
      exact .inl ⟨_, rfl, E (.d _) _ _ _ (Keep.refl _ _) R (.int _) h⟩
    · exact h.elim
def tyName : PyData → String
  | .none => "NoneType"
  | .bool _ => "bool"
  | .int _ => "int"
  | .str _ => "str"
  | .list _ => "list"
  | .tuple _ => "tuple"
  | .dict _ => "dict"
inductive Ty where
  | int | bool | str | list | tuple | dict
def Ty.name : Ty → String
  | .int => "int"
  | .bool => "bool"
  | .str => "str"
  | .list => "list"
  | .tuple => "tuple"
  | .dict => "dict"
def isTy : Ty → PyData → Bool
  | .int, .int _ => true
  | .int, .bool _ => true
  | .bool, .bool _ => true
  | .str, .str _ => true
  | .list, .list _ => true
  | .tuple, .tuple _ => true
  | .dict, .dict _ => true
  | _, _ => false
theorem kitB_ty (t : Ty) (d : PyData) : kitB (tyName d) t.name = some (isTy t d) := by
  cases t <;> cases d <;> first | decide +kernel | rfl
theorem RepP.ty {K : PySem.W.Frag} {H : Hp} {M : Mem} {v : V} {d : PyData} (h : RepP K H M v d) : TyX K H v (.type (tyName d)) := by
  cases h with
  | non => exact .base .non
  | bl b => exact .base (.bl b)
  | int i => exact .base (.int i)
  | str x => exact .base (.str x)
  | lst e n r => exact .base (.lst e)
  | tup e n r => exact .base (.tup e)
  | ktp e r =>
    obtain ⟨o, its, n, h1, h2, _⟩ := e
    exact .kTuple h1 h2
  | dct0 e n => exact .base (.dK e)
def isTyM : Ty → MO → Bool
  | .list, .lst _ => true
  | .tuple, .tup _ => true
  | _, _ => false
def moName : MO → String
  | .lst _ => "list"
  | .tup _ => "tuple"
theorem kitB_mo (t : Ty) (m : MO) : kitB (moName m) t.name = some (isTyM t m) := by
  cases t <;> cases m <;> first | decide +kernel | rfl
theorem MOk.ty {K : PySem.W.Frag} {H : Hp} {M : Mem} {a : Addr} {m : MO} (h : MOk K H M a m) : TyX K H (.ref a) (.type (moName m)) := by
  cases m with
  | lst xs => obtain ⟨vs, e, _⟩ := h; exact .base (.lst e)
  | tup xs => obtain ⟨vs, e, _⟩ := h; exact .base (.tup e)
def isiK (f : DV → Mem → Option Bool) (we : WE) : WE := fun δ M Q => we δ M fun x M1 => match f x M1 with
  | some b => Q (.d (.bool b)) M1
  | none => False
def isOne (t : Ty) (x : DV) (M : Mem) : Option Bool := match x with
  | .d y => some (isTy t y)
  | .r a => (M a).map (isTyM t)
  | .s _ => none
def isTwo (t u : Ty) (x : DV) (M : Mem) : Option Bool := match x with
  | .d y => some (isTy t y || isTy u y)
  | .r a => (M a).map fun m => isTyM t m || isTyM u m
  | .s _ => none
theorem ty_of {K : PySem.W.Frag} {H : Hp} {M : Mem} {x : DV} {v : V} (R : RelM K H M) (r : Rep K H M v x) : ∀ (f : DV → Mem → Option Bool) (b : Bool), f x M = some b → (∀ a, f (.s a) M = none) → (∀ a, M a = none → f (.r a) M = none) →
    (∃ y, x = .d y ∧ TyX K H v (.type (tyName y))) ∨ ∃ a m, x = .r a ∧ M a = some m ∧ v = .ref a ∧ TyX K H v (.type (moName m)) := by
  intro f b h h1 h2
  cases x with
  | d y => exact .inl ⟨y, rfl, RepP.ty r⟩
  | r a =>
    cases hm : M a with
    | none => rw [h2 a hm] at h; cases h
    | some m =>
      have r : v = .ref a := r
      subst r
      exact .inr ⟨a, m, rfl, hm, rfl, (R a m hm).ty⟩
  | s ns => rw [h1 ns] at h; cases h
theorem de_isi {t : Ty} {a : Expr} {wa : WE} {tn : Str} {pt : Pos} (hg : Gl X "isinstance") (hm : X.mg "isinstance" = none) (hg2 : Gl X tn) (hm2 : X.mg tn = none) (hb : bootBuiltins tn = some (.type t.name)) (ha : DE X a wa)
    (hn : tn ≠ "__name__" := by decide) (hd : (tn == ("__debug__" : Str)) = false := by decide)
    (he : starEach (a :: [.Name tn pt]) X.env = (false, eval a X.env) :: starEach [.Name tn pt] X.env := by rfl) (hpl : (backTo pos (starEach [.Name tn pt] X.env)).any (·.1) = false := by rfl) :
    DE X (.Call (.Name "isinstance" p) [a, .Name tn pt] [] pos) (isiK (isOne t) wa) :=
  pe_imp (pe_callB call_isi hg hm (by decide +kernel) (pa_cons ha (pa_cons (pe_bltn hg2 hm2 hb (v := .ty t.name) rfl hn hd) pa_nil) he) (by decide) (by decide) he hpl) fun σ H Q ⟨δ, M, Qd, S, R, h, E⟩ =>
    ⟨δ, M, _, S, R, h, fun d M1 v H1 k1 R1 r1 h1 => by
      split at h1
      · rename_i b hb
        rcases ty_of R1 r1 (isOne t) b hb (fun _ => rfl) (fun a ha => by show (M1 a).map _ = none; rw [ha]; rfl) with ⟨y, rfl, ty⟩ | ⟨a, m, rfl, hm, rfl, ty⟩
        · cases hb
          exact ⟨v, .ty t.name, _, .type t.name, _, rfl, .ty _, ty, kit_ty (kitB_ty t y), E (.d _) _ _ _ k1 R1 (.bl _) h1⟩
        · have hb : (M1 a).map (isTyM t) = some b := hb
          rw [hm] at hb
          cases hb
          exact ⟨_, .ty t.name, _, .type t.name, _, rfl, .ty _, ty, kit_ty (kitB_mo t m), E (.d _) _ _ _ k1 R1 (.bl _) h1⟩
      · exact h1.elim⟩
theorem de_isi2 {t u : Ty} {a : Expr} {wa : WE} {tn un : Str} {pt pu ptup : Pos} {kx} (hg : Gl X "isinstance") (hm : X.mg "isinstance" = none) (hg2 : Gl X tn) (hm2 : X.mg tn = none) (hb : bootBuiltins tn = some (.type t.name))
    (hg3 : Gl X un) (hm3 : X.mg un = none) (hb3 : bootBuiltins un = some (.type u.name)) (ha : DE X a wa)
    (hn : tn ≠ "__name__" := by decide) (hd : (tn == ("__debug__" : Str)) = false := by decide) (hn3 : un ≠ "__name__" := by decide) (hd3 : (un == ("__debug__" : Str)) = false := by decide)
    (he : starEach (a :: [.Tuple [.Name tn pt, .Name un pu] kx ptup]) X.env = (false, eval a X.env) :: starEach [.Tuple [.Name tn pt, .Name un pu] kx ptup] X.env := by rfl) (hpl : (backTo pos (starEach [.Tuple [.Name tn pt, .Name un pu] kx ptup] X.env)).any (·.1) = false := by rfl) :
    DE X (.Call (.Name "isinstance" p) [a, .Tuple [.Name tn pt, .Name un pu] kx ptup] [] pos) (isiK (isTwo t u) wa) :=
  pe_imp (pe_callB call_isiT hg hm (by decide +kernel) (pa_cons ha (pa_cons (pe_tup (pa_cons (pe_bltn hg2 hm2 hb (v := .ty t.name) rfl hn hd) (pa_cons (pe_bltn hg3 hm3 hb3 (v := .ty u.name) rfl hn3 hd3) pa_nil))) pa_nil) he) (by decide) (by decide) he hpl) fun σ H Q ⟨δ, M, Qd, S, R, h, E⟩ =>
    ⟨δ, M, _, S, R, h, fun d M1 v H1 k1 R1 r1 h1 => by
      split at h1
      · rename_i b hb
        refine ⟨by show 2 ≤ sizeLine; decide, fun tp htp => ?_⟩
        have k2 : Keep H M (upd H1 tp (.tup [.ty t.name, .ty u.name])) M1 := k1.trans (Keep.new R1 htp)
        have R2 := R1.new (o := .tup [.ty t.name, .ty u.name]) htp
        have r2 := r1.keep (Keep.new R1 (o := .tup [.ty t.name, .ty u.name]) htp)
        have two : ∀ {n : String} {b1 b2 : Bool}, kitB n t.name = some b1 → kitB n u.name = some b2 → PySem.W.kitAny X.K (.type n) [.type t.name, .type u.name] = some (b1 || b2) := fun {n b1 b2} h1 h2 => by
          refine kitAny_cons (kit_ty h1) (fun z => ?_) (fun z => by rw [z]; rfl)
          subst z
          exact kitAny_cons (kit_ty h2) (fun z => by subst z; rfl) (fun z => by rw [z]; rfl)
        rcases ty_of R2 r2 (isTwo t u) b hb (fun _ => rfl) (fun a ha => by show (M1 a).map _ = none; rw [ha]; rfl) with ⟨y, rfl, ty⟩ | ⟨a, m, rfl, hm, rfl, ty⟩
        · cases hb
          exact ⟨v, tp, _, _, [.type t.name, .type u.name], _, rfl, upd_same, .cons (.ty _) (.cons (.ty _) .nil), ty, two (kitB_ty t y) (kitB_ty u y), E (.d _) _ _ _ k2 R2 (.bl _) h1⟩
        · have hb : (M1 a).map (fun m => isTyM t m || isTyM u m) = some b := hb
          rw [hm] at hb
          cases hb
          exact ⟨_, tp, _, _, [.type t.name, .type u.name], _, rfl, upd_same, .cons (.ty _) (.cons (.ty _) .nil), ty, two (kitB_mo t m) (kitB_mo u m), E (.d _) _ _ _ k2 R2 (.bl _) h1⟩
      · exact h1.elim⟩
end
end DL
namespace DL
open PySem PySem.Spec L2
open PyProof.Rows hiding St

section
variable {X : Cx} {st : Stmt} {rest : List Stmt} {t u : WS} {e : Expr} {we : WE} {pos : Pos}
def wNext : WS := fun E δ M => E.nx δ M
def wSeq (t u : WS) : WS := fun E δ M => t { E with nx := u E } δ M
theorem dss_nil : DSs X [] wNext := pss_imp pss_nil fun D σ H ⟨δ, M, E, S, R, h, e1, e2, e3, e4⟩ => e1 δ M σ H (Keep.refl _ _) R S h
theorem dss_cons (h1 : DS X st t) (h2 : DSs X rest u) : DSs X (st :: rest) (wSeq t u) :=
  pss_imp (pss_cons h1 h2) fun D σ H ⟨δ, M, E, S, R, h, e1, e2, e3, e4⟩ => ⟨δ, M, _, S, R, h,
    fun δ' M' σ' H' k R' S' q => ⟨δ', M', E, S', R', q, fun δ2 M2 σ2 H2 k2 => e1 δ2 M2 σ2 H2 (k.trans k2), fun d M2 v H2 k2 => e2 d M2 v H2 (k.trans k2), fun δ2 M2 σ2 H2 k2 => e3 δ2 M2 σ2 H2 (k.trans k2), fun δ2 M2 σ2 H2 k2 => e4 δ2 M2 σ2 H2 (k.trans k2)⟩, e2, e3, e4⟩
theorem dss_one (h1 : DS X st t) : DSs X [st] t := pss_one h1
def wBreak : WS := fun E δ M => E.bk δ M
def wCont : WS := fun E δ M => E.ct δ M
theorem ds_pass : DS X (.Pass pos) wNext := ps_imp ps_pass fun D σ H ⟨δ, M, E, S, R, h, e1, e2, e3, e4⟩ => e1 δ M σ H (Keep.refl _ _) R S h
theorem ds_break : DS X (.Break pos) wBreak := ps_imp ps_break fun D σ H ⟨δ, M, E, S, R, h, e1, e2, e3, e4⟩ => e3 δ M σ H (Keep.refl _ _) R S h
theorem ds_continue : DS X (.Continue pos) wCont := ps_imp ps_continue fun D σ H ⟨δ, M, E, S, R, h, e1, e2, e3, e4⟩ => e4 δ M σ H (Keep.refl _ _) R S h
def wDrop (we : WE) : WS := fun E δ M => we δ M fun _ M1 => E.nx δ M1
theorem ds_expr (he : DE X e we) (hs : swapsWith e none pos.line X.env = pure false := by rfl) : DS X (.Expr e pos) (wDrop we) :=
  ps_imp (ps_expr he hs) fun D σ H ⟨δ, M, E, S, R, h, e1, e2, e3, e4⟩ => ⟨δ, M, _, S, R, h, fun d M1 v H1 k1 R1 r1 h1 => e1 δ M1 σ H1 k1 R1 (S.keep k1) h1⟩
def wRet (we : WE) : WS := fun E δ M => we δ M E.rt
theorem ds_ret (he : DE X e we) : DS X (.Return (some e) pos) (wRet we) :=
  ps_imp (ps_ret he) fun D σ H ⟨δ, M, E, S, R, h, e1, e2, e3, e4⟩ => ⟨δ, M, _, S, R, h, e2⟩
def wRetN : WS := fun E _ M => E.rt (.d .none) M
theorem ds_retN : DS X (.Return none pos) wRetN := ps_imp ps_retN fun D σ H ⟨δ, M, E, S, R, h, e1, e2, e3, e4⟩ => e2 (.d .none) M .non H (Keep.refl _ _) R .non h
def wIfS (c : WT) (t u : WS) : WS := fun E δ M => c δ M fun b M1 => if b = true then t E δ M1 else u E δ M1
theorem ds_if {c : Expr} {a b : List Stmt} {tc : WT} (hc : DT X c tc) (ha : DSs X a t) (hb : DSs X b u) : DS X (.If c a b pos) (wIfS tc t u) :=
  ps_imp (ps_if hc ha hb) fun D σ H ⟨δ, M, E, S, R, h, e1, e2, e3, e4⟩ => ⟨δ, M, _, S, R, h, fun b M1 H1 k R1 h1 => by
    by_cases hb : b = true
    · rw [if_pos hb] at h1 ⊢
      exact ⟨δ, M1, E, S.keep k, R1, h1, fun δ2 M2 σ2 H2 k2 => e1 δ2 M2 σ2 H2 (k.trans k2), fun d M2 v H2 k2 => e2 d M2 v H2 (k.trans k2), fun δ2 M2 σ2 H2 k2 => e3 δ2 M2 σ2 H2 (k.trans k2), fun δ2 M2 σ2 H2 k2 => e4 δ2 M2 σ2 H2 (k.trans k2)⟩
    · rw [if_neg hb] at h1 ⊢
      exact ⟨δ, M1, E, S.keep k, R1, h1, fun δ2 M2 σ2 H2 k2 => e1 δ2 M2 σ2 H2 (k.trans k2), fun d M2 v H2 k2 => e2 d M2 v H2 (k.trans k2), fun δ2 M2 σ2 H2 k2 => e3 δ2 M2 σ2 H2 (k.trans k2), fun δ2 M2 σ2 H2 k2 => e4 δ2 M2 σ2 H2 (k.trans k2)⟩⟩
def wNever : WS := fun _ _ _ => False
theorem ds_never : DS X st wNever := ps_imp ps_never fun D σ H ⟨δ, M, E, S, R, h, _⟩ => h
theorem dss_never {sts : List Stmt} : DSs X sts wNever := pss_imp pss_never fun D σ H ⟨δ, M, E, S, R, h, _⟩ => h

abbrev WG := DV → SD → (SD → Prop) → Prop
def GSim (K : PySem.W.Frag) (g : TG) (gd : WG) (vs : List Nat) : Prop := ∀ (v : V) (σ : St) (H : Hp) (Q : St → Hp → Prop) (d : DV) (δ : SD) (M : Mem) (Qd : SD → Prop), Rep K H M v d → RepS K H M σ δ → RelM K H M → gd d δ Qd →
  (∀ σ' δ', RepS K H M σ' δ' → wipe σ' vs = wipe σ vs → Qd δ' → Q σ' H) → g v σ H Q
structure DG (X : Cx) (tg : Expr) (gd : WG) (vs : List Nat) : Prop where
  ex : ∃ g, PG X tg g ∧ GSim X.K g gd vs
def gNameD (i : Nat) : WG := fun d δ Q => Q (δ.set i (some d))
theorem wipe_set {σ : St} {i : Nat} {o : Option V} : ∀ {vs : List Nat}, i ∈ vs → wipe (σ.set i o) vs = wipe σ vs
  | [], h => by cases h
  | v :: vs, h => by
    unfold wipe
    by_cases e : i ∈ vs
    · rw [wipe_set e]
    · have e2 : i = v := by
        rcases List.mem_cons.mp h with z | z
        · exact z
        · exact absurd z e
      subst e2
      clear h
      have key : ∀ (ws : List Nat) (τ : St), i ∉ ws → wipe (τ.set i o) ws = (wipe τ ws).set i o := by
        intro ws
        induction ws with
        | nil => intro τ _; rfl
        | cons w ws ih =>
          intro τ hw
          unfold wipe
          simp only [List.mem_cons, not_or] at hw
          rw [ih τ hw.2, List.set_comm _ _ (fun z => hw.1 z)]
      rw [key vs σ e, List.set_set]
theorem gsim_name {K : PySem.W.Frag} {i : Nat} {vs : List Nat} (h : i ∈ vs) : GSim K (gName i) (gNameD i) vs := fun v σ H Q d δ M Qd r S R q E => E _ _ (S.set r i) (wipe_set h) q
theorem dg_name {i : Nat} {x : Str} {vs : List Nat} (hN : X.N.Nodup) (hi : X.N[i]? = some x) (hx : Loc X.env.scope x) (hv : i ∈ vs) (hf : X.fn x = true ∨ X.env.scope.names.lookup x = some .local := by first | exact .inl rfl | exact .inr rfl | assumption) : DG X (.Name x pos) (gNameD i) vs :=
  ⟨_, pg_name hN hi hx hf, gsim_name hv⟩
abbrev WGs := List DV → SD → (SD → Prop) → Prop
def GsSim (K : PySem.W.Frag) (g : TGs) (gd : WGs) (vs : List Nat) : Prop := ∀ (xs : List V) (σ : St) (H : Hp) (Q : St → Hp → Prop) (ds : List DV) (δ : SD) (M : Mem) (Qd : SD → Prop), RepL K H M xs ds → RepS K H M σ δ → RelM K H M → gd ds δ Qd →
  (∀ σ' δ', RepS K H M σ' δ' → wipe σ' vs = wipe σ vs → Qd δ' → Q σ' H) → g xs σ H Q
structure DGs (X : Cx) (tgs : List Expr) (gd : WGs) (vs : List Nat) : Prop where
  ex : ∃ g, PGs X tgs g ∧ GsSim X.K g gd vs
def gNilD : WGs := fun ds δ Q => ds = [] ∧ Q δ
def gConsD (g : WG) (gs : WGs) : WGs := fun ds δ Q => match ds with
  | d :: r => g d δ fun δ' => gs r δ' Q
  | [] => False
theorem dgs_nil {vs : List Nat} : DGs X [] gNilD vs := ⟨_, pgs_nil, fun xs σ H Q ds δ M Qd r S R q E => by
  obtain ⟨rfl, q⟩ := q
  cases r
  exact ⟨rfl, E _ _ S rfl q⟩⟩
theorem dgs_cons {e : Expr} {es : List Expr} {g : WG} {gs : WGs} {vs : List Nat} (h1 : DG X e g vs) (h2 : DGs X es gs vs) (hs : (assignEach (e :: es) X.env).map (·.2) = assign e X.env :: (assignEach es X.env).map (·.2) := by rfl) : DGs X (e :: es) (gConsD g gs) vs := by
  obtain ⟨⟨G, p, s⟩⟩ := h1
  obtain ⟨⟨Gs, ps, ss⟩⟩ := h2
  refine ⟨_, pgs_cons p ps hs, fun xs σ H Q ds δ M Qd r S R q E => ?_⟩
  cases r with
  | nil => exact q.elim
  | cons r1 r2 =>
    refine ⟨_, _, rfl, s _ σ H _ _ δ M _ r1 S R q fun σ' δ' S' w' q' => ?_⟩
    exact ss _ σ' H Q _ δ' M Qd r2 S' R q' fun σ2 δ2 S2 w2 q2 => E σ2 δ2 S2 (w2.trans w') q2
def gTupD (n : Nat) (gs : WGs) : WG := fun d δ Q => match d with
  | .d (.tuple xs) => xs.length = n ∧ gs (xs.map .d) δ Q
  | _ => False
theorem dg_tup {es : List Expr} {k : Nat} {gs : WGs} {n : Nat} {vs : List Nat} (hc : X.calm = true) (h : DGs X es gs vs)
    (hn : (assignEach es X.env).length = n := by rfl) (hst : (assignEach es X.env).findIdx? (·.1) = none := by rfl) : DG X (.Tuple es k pos) (gTupD n gs) vs := by
  obtain ⟨⟨G, p, s⟩⟩ := h
  refine ⟨_, pg_tup hc p hn hst, fun v σ H Q d δ M Qd r S R q E => ?_⟩
  unfold gTupD at q
  split at q
  · obtain ⟨a, vs', e1, s1, ra⟩ := RepP.tup_inv r
    exact ⟨a, vs', e1, s1, by rw [ra.length]; exact q.1, s _ σ H Q _ δ M Qd ra.toL S R q.2 E⟩
  · exact q.elim
def wAsg (we : WE) (g : WG) : WS := fun E δ M => we δ M fun x M1 => g x δ fun δ1 => E.nx δ1 M1
theorem ds_asg {tg : Expr} {g : WG} {vs : List Nat} (he : DE X e we) (hg : DG X tg g vs) (hs : swapsWithSole [tg] e pos.line X.env = pure false := by rfl) (hw : swappedStores [tg] e X.env = pure none := by rfl)
    (h1 : (assignEach [tg] X.env).map (·.2) = [assign tg X.env] := by rfl) : DS X (.Assign [tg] e pos) (wAsg we g) := by
  obtain ⟨⟨G, p, s⟩⟩ := hg
  exact ps_imp (ps_asg he p hs hw h1) fun D σ H ⟨δ, M, E, S, R, h, e1, e2, e3, e4⟩ => ⟨δ, M, _, S, R, h, fun d M1 v H1 k1 R1 r1 h1 => s v σ H1 _ d δ M1 _ r1 (S.keep k1) R1 h1 fun σ' δ' S' _ q => e1 δ' M1 σ' H1 k1 R1 S' q⟩
theorem ds_set {i : Nat} {x : Str} {pos' : Pos} (hN : X.N.Nodup) (hi : X.N[i]? = some x) (hx : Loc X.env.scope x) (he : DE X e we) (hs : swapsWith e (some (.Name x pos')) pos.line X.env = pure false := by rfl)
    (hf : X.fn x = true ∨ X.env.scope.names.lookup x = some .local := by first | exact .inl rfl | exact .inr rfl | assumption) : DS X (.Assign [.Name x pos'] e pos) (wAsg we (gNameD i)) :=
  ps_imp (ps_set hN hi hx he hs hf) fun D σ H ⟨δ, M, E, S, R, h, e1, e2, e3, e4⟩ => ⟨δ, M, _, S, R, h, fun d M1 v H1 k1 R1 r1 h1 => e1 _ M1 _ H1 k1 R1 ((S.keep k1).set r1 i) h1⟩
def wPar (i j : Nat) (wa : WA) : WS := fun E δ M => wa δ M fun ds M1 => match ds with
  | [d, e] => E.nx ((δ.set i (some d)).set j (some e)) M1
  | _ => False
theorem ds_par {i j : Nat} {x y : Str} {a b : Expr} {wa : WA} {px py pt : Pos} {kt k2 pt2} (hc : X.calm = true) (hN : X.N.Nodup) (hi : X.N[i]? = some x) (hj : X.N[j]? = some y) (hij : i ≠ j)
    (hx : X.env.scope.names.lookup x = some .local) (hy : X.env.scope.names.lookup y = some .local) (ha : DA X [a, b] wa)
    (hw : swappedStores [.Tuple [.Name x px, .Name y py] kt pt] (.Tuple [a, b] k2 pt2) X.env = pure (some [x, y]))
    (hs : swapsWithSole [.Tuple [.Name x px, .Name y py] kt pt] (.Tuple [a, b] k2 pt2) pos.line X.env = pure false := by rfl) :
    DS X (.Assign [.Tuple [.Name x px, .Name y py] kt pt] (.Tuple [a, b] k2 pt2) pos) (wPar i j wa) :=
  ps_imp (ps_par hc hN hi hj hij hx hy ha hw hs) fun D σ H ⟨δ, M, E, S, R, h, e1, e2, e3, e4⟩ => ⟨δ, M, _, S, R, h, fun ds M1 vs H1 k1 R1 r1 h1 => by
    split at h1
    · obtain ⟨v, u, rfl, rv, ru⟩ := two_inv r1
      exact ⟨v, u, rfl, e1 _ M1 _ H1 k1 R1 (((S.keep k1).set rv i).set ru j) h1⟩
    · exact h1.elim⟩
def wSetIx (wo wi wv : WE) : WS := fun E δ M => wv δ M fun y M1 => wo δ M1 fun o M2 => wi δ M2 fun i M3 => match o, i with
  | .r a, .d (.int k) => (match M3 a with
    | some (.lst xs) => optD (ixN xs.length k) fun j => E.nx δ (mupd M3 a (.lst (xs.set j y)))
    | _ => False)
  | _, _ => False
theorem RepL.set {K : PySem.W.Frag} {H : Hp} {M : Mem} {v : V} {d : DV} (r : Rep K H M v d) : ∀ {vs : List V} {ds : List DV} (i : Nat), RepL K H M vs ds → RepL K H M (vs.set i v) (ds.set i d)
  | _, _, _, .nil => .nil
  | _, _, 0, .cons _ t => .cons r t
  | _, _, i + 1, .cons q t => .cons q (RepL.set r i t)
theorem RepL.app {K : PySem.W.Frag} {H : Hp} {M : Mem} : ∀ {vs ws : List V} {ds es : List DV}, RepL K H M vs ds → RepL K H M ws es → RepL K H M (vs ++ ws) (ds ++ es)
  | _, _, _, _, .nil, h => h
  | _, _, _, _, .cons a b, h => .cons a (RepL.app b h)
theorem ds_setIx {o i : Expr} {wo wi : WE} {pos' : Pos} (he : DE X e we) (ho : DE X o wo) (hi : DE X i wi) (ha : ∀ v, assign (.Subscript o i pos') X.env v = (do
      let ov ← holding [v] (eval o X.env)
      let iv ← holding [v, ov] (eval i X.env)
      standAt pos'
      holding [v, ov, iv] (setItem ov iv v)
      release [v, ov, iv] []) := by intro _; rfl)
    (hs : swapsWithSole [.Subscript o i pos'] e pos.line X.env = pure false := by rfl) (hw : swappedStores [.Subscript o i pos'] e X.env = pure none := by rfl)
    (h1 : (assignEach [.Subscript o i pos'] X.env).map (·.2) = [assign (.Subscript o i pos') X.env] := by rfl) : DS X (.Assign [.Subscript o i pos'] e pos) (wSetIx wo wi we) :=
  ps_imp (ps_asg he (pg_sub ho hi set_list ha) hs hw h1) fun D σ H ⟨δ, M, E, S, R, h, e1, e2, e3, e4⟩ => ⟨δ, M, _, S, R, h, fun y M1 v H1 k1 R1 r1 h1 =>
    ⟨δ, M1, _, S.keep k1, R1, h1, fun ov M2 vo H2 k2 R2 r2 h2 => ⟨δ, M2, _, (S.keep k1).keep k2, R2, h2, fun iv M3 vi H3 k3 R3 r3 h3 => by
      split at h3
      · rename_i a k
        have r2' : vo = .ref a := r2
        split at h3
        · rename_i xs hm
          obtain ⟨vs, hv, rl⟩ := R3 a _ hm
          obtain ⟨j, hj, h3⟩ := optD_inv h3
          · refine ⟨a, vs, k, j, r2', RepP.int_inv r3, hv, by rw [Paired.length rl]; exact hj, ?_⟩
            have kk := Keep.put (H := H3) (o := .lst (vs.set j v)) (m' := .lst (xs.set j y)) hm
            refine e1 δ _ σ _ (((k1.trans k2).trans k3).trans kk) (R3.put hm ⟨_, upd_same, RepL.keep kk (RepL.set ((r1.keep k2).keep k3) j rl)⟩) ((((S.keep k1).keep k2).keep k3).keep kk) h3
        · exact h3.elim
      · exact h3.elim⟩⟩⟩
abbrev RMD := DV → List DV → Mem → DQ → Prop
def rDM (K : PySem.W.Frag) (rd : RMD) : V → List V → Hp → VK → Prop := fun x xs H Q => ∃ d ds M Qd, RelM K H M ∧ Rep K H M x d ∧ RepL K H M xs ds ∧ rd d ds M Qd ∧ EndD K H M Qd Q
def appD : DV → List DV → Mem → DQ → Prop
  | .r a, [d], M, Q => (match M a with
    | some (.lst xs) => xs.length < sizeLine ∧ Q (.d .none) (mupd M a (.lst (xs ++ [d])))
    | _ => False)
  | _, _, M, Q => False
def extD : DV → List DV → Mem → DQ → Prop
  | .r a, [.d (.list ys)], M, Q => (match M a with
    | some (.lst xs) => xs.length + ys.length ≤ sizeLine ∧ Q (.d .none) (mupd M a (.lst (xs ++ ys.map .d)))
    | _ => False)
  | _, _, M, Q => False
theorem mtR_imp {id : String} {r r' : V → List V → Hp → VK → Prop} (h : MtR X id r) (i : ∀ x xs H Q, r' x xs H Q → r x xs H Q) : MtR X id r' := fun pins s σ H x xs v us Q I rx rs q => h pins s σ H x xs v us Q I rx rs (i _ _ _ _ q)
theorem md_append : MtR X "list.append" (rDM X.K appD) :=
  mtR_imp mt_append fun x xs H Q ⟨d, ds, M, Qd, R, rx, rs, h, E⟩ => by
    unfold appD at h
    split at h
    · rename_i a y
      have rx : x = .ref a := rx
      obtain ⟨v, rfl, rv⟩ := one_inv rs
      split at h
      · rename_i zs hm
        obtain ⟨vs, hv, rl⟩ := R a _ hm
        have kk := Keep.put (H := H) (o := .lst (vs ++ [v])) (m' := .lst (zs ++ [y])) hm
        exact ⟨a, vs, v, rx, rfl, hv, by rw [Paired.length rl]; exact h.1, E (.d .none) _ _ _ kk (R.put hm ⟨_, upd_same, RepL.keep kk (RepL.app rl (.cons rv .nil))⟩) .non h.2⟩
      · exact h.elim
    · exact h.elim
theorem md_extend : MtR X "list.extend" (rDM X.K extD) :=
  mtR_imp mt_extend fun x xs H Q ⟨d, ds, M, Qd, R, rx, rs, h, E⟩ => by
    unfold extD at h
    split at h
    · rename_i a ys
      have rx : x = .ref a := rx
      obtain ⟨v, rfl, rv⟩ := one_inv rs
      obtain ⟨b, us, e1, s1, _, ra⟩ := RepP.lst_inv rv
      subst e1
      split at h
      · rename_i zs hm
        obtain ⟨vs, hv, rl⟩ := R a _ hm
        have kk := Keep.put (H := H) (o := .lst (vs ++ us)) (m' := .lst (zs ++ ys.map .d)) hm
        exact ⟨a, b, vs, us, rx, rfl, hv, s1, by rw [Paired.length rl, ra.length]; exact h.1, E (.d .none) _ _ _ kk (R.put hm ⟨_, upd_same, RepL.keep kk (RepL.app rl ra.toL)⟩) .non h.2⟩
      · exact h.elim
    · exact h.elim
def wMt (rd : RMD) (wo : WE) (wr : WA) : WE := fun δ M Q => wo δ M fun x M1 => wr δ M1 fun ds M2 => rd x ds M2 Q
def wMtL (rd : RMD) (wo : WE) (wr : WA) : WE := fun δ M Q => wo δ M fun x M1 => match x with
  | .r a => (match M1 a with
    | some (.lst _) => wr δ M1 fun ds M2 => rd (.r a) ds M2 Q
    | _ => False)
  | _ => False
theorem de_mtL {o : Expr} {es : List Expr} {wo : WE} {wr : WA} {name : Str} {apos cpos : Pos} {id : String} {rd : RMD} (pa : PlainAttrs "list") (slot : Slot "list" name id) (hty : typeOf (.builtin id) = pure (.type "method_descriptor")) (hm : MtR X id (rDM X.K rd)) (ho : DE X o wo) (ha : DA X (e :: es) wr)
    (hbase : attributeBase o name X.env (eval o X.env) = eval o X.env := by rfl)
    (hfew : ((backTo cpos (starEach (e :: es) X.env)).all (fun x => !x.1) && (backToKw cpos (keywordEach [] X.env)).all (fun x => x.1.isSome)
      && decide ((e :: es).length + ([] : List Keyword).length + (if ([] : List Keyword).isEmpty then 0 else 1) < 30)) = true := by rfl)
    (hline : (apos.endLine == cpos.line) = true := by rfl) (hs : starEach (e :: es) X.env = (false, eval e X.env) :: starEach es X.env := by rfl) (hplain : (backTo cpos (starEach es X.env)).any (·.1) = false := by rfl) :
    DE X (.Call (.Attribute o name apos) (e :: es) [] cpos) (wMtL rd wo wr) :=
  pe_imp (pe_bm pa slot hty hm ho ha hbase hfew hline hs hplain) fun σ H Q ⟨δ, M, Qd, S, R, h, E⟩ => ⟨δ, M, _, S, R, h, fun d M1 v H1 k1 R1 r1 h1 => by
    split at h1
    · rename_i a
      have r1' : v = .ref a := r1
      subst r1'
      split at h1
      · rename_i xs hm
        obtain ⟨vs, hv, rl⟩ := R1 a _ hm
        exact ⟨.inl ⟨rfl, vs, SqL.of hv⟩, δ, M1, _, S.keep k1, R1, h1, fun ds M2 us H2 k2 R2 r2 h2 => ⟨.r a, ds, M2, Qd, R2, rfl, r2, h2, E.step (k1.trans k2)⟩⟩
      · exact h1.elim
    · exact h1.elim⟩
end
end DL
namespace DL
open PySem PySem.Spec L2 RZ
open PyProof.Rows hiding St

abbrev WI := SD → Mem → (List DV → (Mem → Prop) → Mem → Prop) → Prop
structure ItD (K : PySem.W.Frag) (H0 : Hp) (M0 : Mem) (J : It) (items : List DV) (ok : Mem → Prop) : Prop where
  go : ∀ i H M, Keep H0 M0 H M → RelM K H M → ok M → i < items.length → J.go i H
  yld : ∀ i H M x H', Keep H0 M0 H M → RelM K H M → ok M → i < items.length → J.yld i H x H' → ∃ d, items[i]? = some d ∧ Keep H M H' M ∧ RelM K H' M ∧ Rep K H' M x d
  stop : ∀ H M, Keep H0 M0 H M → RelM K H M → ok M → J.stop items.length H
def liftI (K : PySem.W.Frag) (w : WI) : TI := fun σ H R => ∃ δ M Qd, RepS K H M σ δ ∧ RelM K H M ∧ w δ M Qd ∧ ∀ items ok M' H' J, Keep H M H' M' → RelM K H' M' → Qd items ok M' → ItD K H' M' J items ok → R J H'
abbrev DI (X : Cx) (tg iter : Expr) (w : WI) : Prop := PI X tg iter (liftI X.K w)
theorem pi_imp {X : Cx} {tg e : Expr} {t t' : TI} (h : PI X tg e t) (i : ∀ σ H R, t' σ H R → t σ H R) : PI X tg e t' := ⟨fun pins s σ H R I q => h.run pins s σ H R I (i σ H R q)⟩
def srcL (we : WE) : WI := fun δ M Q => we δ M fun x M1 => match x with
  | .d (.list xs) => Q (xs.map .d) (fun _ => True) M1
  | .r a => (match M1 a with
    | some (.lst xs) => Q xs (fun M' => M' a = some (.lst xs)) M1
    | _ => False)
  | _ => False
def srcT (we : WE) : WI := fun δ M Q => we δ M fun x M1 => match x with
  | .d (.tuple xs) => Q (xs.map .d) (fun _ => True) M1
  | _ => False
section
variable {K : PySem.W.Frag} {H : Hp} {M : Mem} {a : Addr}
theorem itd_lst {xs : List V} {ds : List PyData} (e : H a = some (.lst xs)) (n : M a = none) (r : RepA K H M xs ds) : ItD K H M (Itl K a) (ds.map .d) (fun _ => True) where
  go := fun i H' M' k R _ hi => by
    have hi' : i < xs.length := by rw [r.length]; simpa using hi
    exact ⟨xs, xs[i], SqL.of (k a n _ e).1, by simp [hi']⟩
  yld := fun i H' M' x H2 k R _ hi ⟨e1, y⟩ => by
    subst e1
    have hi' : i < ds.length := by simpa using hi
    obtain ⟨v, hv, rv⟩ := (RepA.keep k _ _ r).get (i := i) (d := ds[i]) (by simp [hi'])
    have := y xs (SqL.of (k a n _ e).1)
    rw [hv] at this
    cases this
    exact ⟨.d ds[i], by simp [hi'], Keep.refl _ _, R, rv⟩
  stop := fun H' M' k R _ => ⟨xs, SqL.of (k a n _ e).1, by rw [r.length]; simp⟩
theorem itd_mem {xs : List DV} (hm : M a = some (.lst xs)) : ItD K H M (Itl K a) xs (fun M' => M' a = some (.lst xs)) where
  go := fun i H' M' k R ok hi => by
    obtain ⟨vs, hv, rl⟩ := R a _ ok
    have hi' : i < vs.length := by rw [Paired.length rl]; exact hi
    exact ⟨vs, vs[i], SqL.of hv, by simp [hi']⟩
  yld := fun i H' M' x H2 k R ok hi ⟨e1, y⟩ => by
    subst e1
    obtain ⟨vs, hv, rl⟩ := R a _ ok
    obtain ⟨v, hv', rv⟩ := RepL.get (i := i) (d := xs[i]) rl (by simp [hi])
    have := y vs (SqL.of hv)
    rw [hv'] at this
    cases this
    exact ⟨xs[i], by simp [hi], Keep.refl _ _, R, rv⟩
  stop := fun H' M' k R ok => by
    obtain ⟨vs, hv, rl⟩ := R a _ ok
    exact ⟨vs, SqL.of hv, by rw [Paired.length rl]; exact Nat.le_refl _⟩
theorem itd_tup {v : V} {ds : List PyData} (h : RepP K H M v (.tuple ds)) : ∃ a, v = .ref a ∧ (∃ xs, SqT K H a xs) ∧ ItD K H M (Itt K a) (ds.map .d) (fun _ => True) := by
  have all : ∀ (a : Addr) (xs : List V) , (∀ H' M', Keep H M H' M' → SqT K H' a xs) → RepA K H M xs ds → ItD K H M (Itt K a) (ds.map .d) (fun _ => True) := fun a xs hs r =>
    { go := fun i H' M' k R _ hi => by
        have hi' : i < xs.length := by rw [r.length]; simpa using hi
        exact ⟨xs, xs[i], hs H' M' k, by simp [hi']⟩
      yld := fun i H' M' x H2 k R _ hi ⟨e1, y⟩ => by
        subst e1
        have hi' : i < ds.length := by simpa using hi
        obtain ⟨v, hv, rv⟩ := (RepA.keep k _ _ r).get (i := i) (d := ds[i]) (by simp [hi'])
        have := y xs (hs _ M' k)
        rw [hv] at this
        cases this
        exact ⟨.d ds[i], by simp [hi'], Keep.refl _ _, R, rv⟩
      stop := fun H' M' k R _ => ⟨xs, hs H' M' k, by rw [r.length]; simp⟩ }
  cases h with
  | tup e n r => exact ⟨_, rfl, ⟨_, SqT.of e⟩, all _ _ (fun _ _ k => SqT.of (k _ n _ e).1) r⟩
  | ktp e r => exact ⟨_, rfl, ⟨_, .inr e⟩, all _ _ (fun _ _ _ => .inr e) r⟩
end
section
variable {X : Cx} {tg l : Expr} {we : WE} {pos : Pos}
theorem di_list (hl : DE X l we) : DI X tg l (srcL we) :=
  pi_imp (pi_list hl) fun σ H R ⟨δ, M, Qd, S, Rm, h, E⟩ => ⟨δ, M, _, S, Rm, h, fun d M1 v H1 k1 R1 r1 h1 => by
    split at h1
    · obtain ⟨a, xs, e1, s1, n1, ra⟩ := RepP.lst_inv r1
      exact ⟨a, e1, ⟨xs, SqL.of s1⟩, E _ _ M1 H1 _ k1 R1 h1 (itd_lst s1 n1 ra)⟩
    · rename_i a
      have r1 : v = .ref a := r1
      split at h1
      · rename_i xs hm
        obtain ⟨vs, hv, rl⟩ := R1 a _ hm
        exact ⟨a, r1, ⟨vs, SqL.of hv⟩, E _ _ M1 H1 _ k1 R1 h1 (itd_mem hm)⟩
      · exact h1.elim
    · exact h1.elim⟩
theorem di_tup (hl : DE X l we) : DI X tg l (srcT we) :=
  pi_imp (pi_tup hl) fun σ H R ⟨δ, M, Qd, S, Rm, h, E⟩ => ⟨δ, M, _, S, Rm, h, fun d M1 v H1 k1 R1 r1 h1 => by
    split at h1
    · obtain ⟨a, e1, hs, it⟩ := itd_tup r1
      exact ⟨a, e1, hs, E _ _ M1 H1 _ k1 R1 h1 it⟩
    · exact h1.elim⟩
def rngD (lo : Int) (n : Nat) : List DV := (List.range n).map fun (i : Nat) => .d (.int (lo + (i : Int)))
theorem itd_rng {K : PySem.W.Frag} {H : Hp} {M : Mem} (lo : Int) (n : Nat) : ItD K H M (Itr lo n) (rngD lo n) (fun _ => True) where
  go := fun i H' M' k R _ hi => by
    have hi' : i < n := by simpa [rngD] using hi
    exact hi'
  yld := fun i H' M' x H2 k R _ hi ⟨e1, y⟩ => by
    subst e1 y
    have hi' : i < n := by simpa [rngD] using hi
    exact ⟨.d (.int (lo + i)), by simp [rngD, hi'], Keep.refl _ _, R, .int _⟩
  stop := fun H' M' k R _ => by show n ≤ _; simp [rngD]
def srcR1 (wa : WA) : WI := fun δ M Q => wa δ M fun ds M1 => match ds with
  | [.d (.int j)] => -(2 ^ 62) ≤ j ∧ j < 2 ^ 62 ∧ Q (rngD 0 j.toNat) (fun _ => True) M1
  | _ => False
def srcR2 (wa : WA) : WI := fun δ M Q => wa δ M fun ds M1 => match ds with
  | [.d (.int i), .d (.int j)] => (-(2 ^ 62) ≤ i ∧ i < 2 ^ 62 ∧ -(2 ^ 62) ≤ j ∧ j < 2 ^ 62) ∧ Q (rngD i (j - i).toNat) (fun _ => True) M1
  | _ => False
theorem di_range1 {a : Expr} {wa : WA} {p : Pos} (hg : Gl X "range") (hm : X.mg "range" = none) (ha : DA X [a] wa) (hs : starEach [a] X.env = [(false, eval a X.env)] := by rfl) : DI X tg (.Call (.Name "range" p) [a] [] pos) (srcR1 wa) :=
  pi_imp (pi_range1 hg hm ha hs) fun σ H R ⟨δ, M, Qd, S, Rm, h, E⟩ => ⟨δ, M, _, S, Rm, h, fun ds M1 vs H1 k1 R1 r1 h1 => by
    split at h1
    · obtain ⟨v, rfl, rv⟩ := one_inv r1
      have := RepP.int_inv rv
      subst this
      exact ⟨_, rfl, h1.1, h1.2.1, E _ _ M1 H1 _ k1 R1 h1.2.2 (itd_rng _ _)⟩
    · exact h1.elim⟩
theorem di_range2 {a b : Expr} {wa : WA} {p : Pos} (hg : Gl X "range") (hm : X.mg "range" = none) (ha : DA X [a, b] wa) (hs : starEach [a, b] X.env = [(false, eval a X.env), (false, eval b X.env)] := by rfl) (hs2 : starEach [b] X.env = [(false, eval b X.env)] := by rfl) : DI X tg (.Call (.Name "range" p) [a, b] [] pos) (srcR2 wa) :=
  pi_imp (pi_range2 hg hm ha hs hs2) fun σ H R ⟨δ, M, Qd, S, Rm, h, E⟩ => ⟨δ, M, _, S, Rm, h, fun ds M1 vs H1 k1 R1 r1 h1 => by
    split at h1
    · obtain ⟨v, u, rfl, rv, ru⟩ := two_inv r1
      have := RepP.int_inv rv
      subst this
      have := RepP.int_inv ru
      subst this
      exact ⟨_, _, rfl, h1.1, E _ _ M1 H1 _ k1 R1 h1.2 (itd_rng _ _)⟩
    · exact h1.elim⟩
def enumD (n : Nat) : List PyData → List DV
  | [] => []
  | x :: xs => .d (.tuple [.int n, x]) :: enumD (n + 1) xs
theorem enumD_get : ∀ (xs : List PyData) (n i : Nat), (enumD n xs)[i]? = (xs[i]?).map fun x => DV.d (.tuple [.int ((n + i : Nat) : Int), x])
  | [], n, i => by simp [enumD]
  | x :: xs, n, 0 => by simp [enumD]
  | x :: xs, n, i + 1 => by
    have := enumD_get xs (n + 1) i
    simp only [enumD, List.getElem?_cons_succ]
    rw [this]
    congr 1
    funext y
    congr 4
    omega
theorem enumD_length : ∀ (xs : List PyData) (n : Nat), (enumD n xs).length = xs.length
  | [], n => rfl
  | x :: xs, n => by simp [enumD, enumD_length xs (n + 1)]
theorem itd_enum {K : PySem.W.Frag} {H : Hp} {M : Mem} {a : Addr} {xs : List V} {ds : List PyData} (e : H a = some (.lst xs)) (n : M a = none) (r : RepA K H M xs ds) : ItD K H M (Ite K a) (enumD 0 ds) (fun _ => True) where
  go := fun i H' M' k R _ hi => by
    have hi' : i < xs.length := by rw [r.length]; simpa [enumD_length] using hi
    exact ⟨xs, xs[i], SqL.of (k a n _ e).1, by simp [hi']⟩
  yld := fun i H' M' x H2 k R _ hi ⟨T, y, e1, hT, e2, q⟩ => by
    subst e1 e2
    have hi' : i < ds.length := by simpa [enumD_length] using hi
    obtain ⟨v, hv, rv⟩ := (RepA.keep k _ _ r).get (i := i) (d := ds[i]) (by simp [hi'])
    have := q xs (SqL.of (k a n _ e).1)
    rw [hv] at this
    obtain rfl : v = y := Option.some.inj this
    refine ⟨.d (.tuple [.int ((0 + i : Nat) : Int), ds[i]]), by rw [enumD_get]; simp [hi'], Keep.new R hT, R.new hT, ?_⟩
    have kk := Keep.new R (o := .tup [.int (i : Nat), v]) hT
    refine RepP.tup upd_same (R.no hT) (.cons ?_ (.cons (RepP.keep kk _ _ rv) .nil))
    have z : ((0 + i : Nat) : Int) = (i : Int) := by omega
    rw [z]
    exact .int _
  stop := fun H' M' k R _ => ⟨xs, SqL.of (k a n _ e).1, by rw [r.length, enumD_length]; exact Nat.le_refl _⟩
def srcE (we : WA) : WI := fun δ M Q => we δ M fun ds M1 => match ds with
  | [.d (.list xs)] => Q (enumD 0 xs) (fun _ => True) M1
  | _ => False
theorem di_enum {e : Expr} {wa : WA} {p tpos : Pos} {elts : List Expr} {kk : Nat} (hg : Gl X "enumerate") (hm : X.mg "enumerate" = none) (ha : DA X [e] wa) (hs : starEach [e] X.env = [(false, eval e X.env)] := by rfl) :
    DI X (.Tuple elts kk tpos) (.Call (.Name "enumerate" p) [e] [] pos) (srcE wa) :=
  pi_imp (pi_enum hg hm ha hs) fun σ H R ⟨δ, M, Qd, S, Rm, h, E⟩ => ⟨δ, M, _, S, Rm, h, fun ds M1 vs H1 k1 R1 r1 h1 => by
    split at h1
    · obtain ⟨v, rfl, rv⟩ := one_inv r1
      obtain ⟨a, xs, e1, s1, n1, ra⟩ := RepP.lst_inv rv
      subst e1
      exact ⟨a, xs, rfl, SqL.of s1, E _ _ M1 H1 _ k1 R1 h1 (itd_enum s1 n1 ra)⟩
    · exact h1.elim⟩
def zipD : List PyData → List PyData → List DV
  | x :: xs, y :: ys => .d (.tuple [x, y]) :: zipD xs ys
  | _, _ => []
theorem zipD_get : ∀ (xs ys : List PyData) (i : Nat) (x y : PyData), xs[i]? = some x → ys[i]? = some y → (zipD xs ys)[i]? = some (.d (.tuple [x, y]))
  | [], _, i, x, y, h, _ => by simp at h
  | _ :: _, [], i, x, y, _, h => by simp at h
  | a :: xs, b :: ys, 0, x, y, h1, h2 => by
    simp at h1 h2
    subst h1 h2
    rfl
  | a :: xs, b :: ys, i + 1, x, y, h1, h2 => by
    simp only [List.getElem?_cons_succ] at h1 h2
    simp only [zipD, List.getElem?_cons_succ]
    exact zipD_get xs ys i x y h1 h2
theorem zipD_length : ∀ (xs ys : List PyData), (zipD xs ys).length = min xs.length ys.length
  | [], _ => by simp [zipD]
  | _ :: _, [] => by simp [zipD]
  | a :: xs, b :: ys => by simp [zipD, zipD_length xs ys]
theorem pair_rep {K : PySem.W.Frag} {H : Hp} {M : Mem} {T : Addr} {v u : V} {x y : PyData} (R : RelM K H M) (hT : H T = none) (rv : RepP K H M v x) (ru : RepP K H M u y) : RepP K (upd H T (.tup [v, u])) M (.ref T) (.tuple [x, y]) := by
  have kk := Keep.new R (o := .tup [v, u]) hT
  exact .tup upd_same (R.no hT) (.cons (RepP.keep kk _ _ rv) (.cons (RepP.keep kk _ _ ru) .nil))
theorem itd_zipL {K : PySem.W.Frag} {H : Hp} {M : Mem} {a b : Addr} {xs ys : List V} {ds es : List PyData} (e : H a = some (.lst xs)) (n : M a = none) (r : RepA K H M xs ds) (e' : H b = some (.lst ys)) (n' : M b = none) (r' : RepA K H M ys es) :
    ItD K H M (Itz K a b) (zipD ds es) (fun _ => True) where
  go := fun i H' M' k R _ hi => by
    rw [zipD_length] at hi
    have h1 : i < xs.length := by rw [r.length]; omega
    have h2 : i < ys.length := by rw [r'.length]; omega
    exact ⟨xs, ys, xs[i], ys[i], SqL.of (k a n _ e).1, SqL.of (k b n' _ e').1, by simp [h1], by simp [h2]⟩
  yld := fun i H' M' x H2 k R _ hi ⟨T, y, z, e1, hT, e2, q1, q2⟩ => by
    subst e1 e2
    rw [zipD_length] at hi
    have h1 : i < ds.length := by omega
    have h2 : i < es.length := by omega
    obtain ⟨v, hv, rv⟩ := (RepA.keep k _ _ r).get (i := i) (d := ds[i]) (by simp [h1])
    obtain ⟨u, hu, ru⟩ := (RepA.keep k _ _ r').get (i := i) (d := es[i]) (by simp [h2])
    have := q1 xs (SqL.of (k a n _ e).1)
    rw [hv] at this
    cases this
    have := q2 ys (SqL.of (k b n' _ e').1)
    rw [hu] at this
    cases this
    exact ⟨_, zipD_get ds es i _ _ (by simp [h1]) (by simp [h2]), Keep.new R hT, R.new hT, pair_rep R hT rv ru⟩
  stop := fun H' M' k R _ => ⟨xs, ys, SqL.of (k a n _ e).1, SqL.of (k b n' _ e').1, by rw [r.length, r'.length, zipD_length]; omega⟩
theorem RepP.tupK {K : PySem.W.Frag} {H : Hp} {M : Mem} {v : V} {ds : List PyData} (h : RepP K H M v (.tuple ds)) : ∃ a xs, v = .ref a ∧ (∀ H' M', Keep H M H' M' → SqT K H' a xs) ∧ RepA K H M xs ds := by
  cases h with
  | tup e n r => exact ⟨_, _, rfl, fun H' M' k => SqT.of (k _ n _ e).1, r⟩
  | ktp e r => exact ⟨_, _, rfl, fun H' M' k => .inr e, r⟩
theorem itd_zipT {K : PySem.W.Frag} {H : Hp} {M : Mem} {a b : Addr} {xs ys : List V} {ds es : List PyData} (e : ∀ H' M', Keep H M H' M' → SqT K H' a xs) (r : RepA K H M xs ds) (e' : ∀ H' M', Keep H M H' M' → SqT K H' b ys) (r' : RepA K H M ys es) :
    ItD K H M (ItzT K a b) (zipD ds es) (fun _ => True) where
  go := fun i H' M' k R _ hi => by
    rw [zipD_length] at hi
    have h1 : i < xs.length := by rw [r.length]; omega
    have h2 : i < ys.length := by rw [r'.length]; omega
    exact ⟨xs, ys, xs[i], ys[i], e _ _ k, e' _ _ k, by simp [h1], by simp [h2]⟩
  yld := fun i H' M' x H2 k R _ hi ⟨T, y, z, e1, hT, e2, q1, q2⟩ => by
    subst e1 e2
    rw [zipD_length] at hi
    have h1 : i < ds.length := by omega
    have h2 : i < es.length := by omega
    obtain ⟨v, hv, rv⟩ := (RepA.keep k _ _ r).get (i := i) (d := ds[i]) (by simp [h1])
    obtain ⟨u, hu, ru⟩ := (RepA.keep k _ _ r').get (i := i) (d := es[i]) (by simp [h2])
    have := q1 xs (e _ _ k)
    rw [hv] at this
    cases this
    have := q2 ys (e' _ _ k)
    rw [hu] at this
    cases this
    exact ⟨_, zipD_get ds es i _ _ (by simp [h1]) (by simp [h2]), Keep.new R hT, R.new hT, pair_rep R hT rv ru⟩
  stop := fun H' M' k R _ => ⟨xs, ys, e _ _ k, e' _ _ k, by rw [r.length, r'.length, zipD_length]; omega⟩
def srcZ (wa : WA) : WI := fun δ M Q => wa δ M fun ds M1 => match ds with
  | [.d (.list xs), .d (.list ys)] => Q (zipD xs ys) (fun _ => True) M1
  | [.d (.tuple xs), .d (.tuple ys)] => Q (zipD xs ys) (fun _ => True) M1
  | _ => False
theorem di_zip {e e2 : Expr} {wa : WA} {p tpos : Pos} {elts : List Expr} {kk : Nat} (hg : Gl X "zip") (hm : X.mg "zip" = none) (ha : DA X [e, e2] wa)
    (hs : starEach [e, e2] X.env = (false, eval e X.env) :: starEach [e2] X.env := by rfl) (hpl : (backTo pos (starEach [e2] X.env)).any (·.1) = false := by rfl) :
    DI X (.Tuple elts kk tpos) (.Call (.Name "zip" p) [e, e2] [] pos) (srcZ wa) :=
  pi_imp (pi_zipA hg hm ha hs hpl) fun σ H R ⟨δ, M, Qd, S, Rm, h, E⟩ => ⟨δ, M, _, S, Rm, h, fun ds M1 vs H1 k1 R1 r1 h1 => by
    split at h1
    · obtain ⟨v, u, rfl, rv, ru⟩ := two_inv r1
      obtain ⟨a, xs, e1, s1, n1, ra⟩ := RepP.lst_inv rv
      obtain ⟨b, ys, e2, s2, n2, rb⟩ := RepP.lst_inv ru
      subst e1 e2
      exact ⟨a, b, xs, ys, rfl, .inl ⟨SqL.of s1, SqL.of s2, E _ _ M1 H1 _ k1 R1 h1 (itd_zipL s1 n1 ra s2 n2 rb)⟩⟩
    · obtain ⟨v, u, rfl, rv, ru⟩ := two_inv r1
      obtain ⟨a, xs, e1, s1, ra⟩ := RepP.tupK rv
      obtain ⟨b, ys, e2, s2, rb⟩ := RepP.tupK ru
      subst e1 e2
      exact ⟨a, b, xs, ys, rfl, .inr ⟨s1 _ _ (Keep.refl _ _), s2 _ _ (Keep.refl _ _), E _ _ M1 H1 _ k1 R1 h1 (itd_zipT s1 ra s2 rb)⟩⟩
    · exact h1.elim⟩

def loopD (ok : Mem → Prop) (g : WG) (tb : WS) (E : DEnds) : List DV → SD → Mem → Prop
  | [], δ, M => ok M ∧ E.nx δ M
  | x :: xs, δ, M => ok M ∧ g x δ fun δ1 => tb { E with nx := loopD ok g tb E xs, ct := loopD ok g tb E xs, bk := E.nx } δ1 M
def wFor (ws : WI) (g : WG) (tb : WS) : WS := fun E δ M => ws δ M fun items ok M1 => loopD ok g tb E items δ M1
theorem drop_get {α : Type} {xs : List α} {i : Nat} {x : α} (h : xs[i]? = some x) : xs.drop i = x :: xs.drop (i + 1) := by
  obtain ⟨hl, e⟩ := List.getElem?_eq_some_iff.mp h
  rw [List.drop_eq_getElem_cons hl, e]
theorem ds_for {iter : Expr} {body : List Stmt} {ws : WI} {g : WG} {tb : WS} {vs : List Nat} (hp : PassesOwn (model X.prog X.w) X.A X.env X.xe) (hc : X.calm = true) (hi : DI X tg iter ws) (hg : DG X tg g vs) (hb : DSs X body tb)
    (hs : ∀ x, foldedSetIterable iter X.env x = pure x := by intro _; rfl) : DS X (.For tg iter body [] pos) (wFor ws g tb) := by
  obtain ⟨⟨G, pg, sim⟩⟩ := hg
  refine ps_imp (ps_for hp hc hi pg hb hs) fun D σ H ⟨δ, M, E, S, R, h, e1, e2, e3, e4⟩ => ⟨δ, M, _, S, R, h, fun items ok M1 H1 J k1 R1 h1 it => ?_⟩
  refine ⟨fun i m σ' H' => ∃ δ' M', m = items.length - i ∧ i ≤ items.length ∧ Keep H1 M1 H' M' ∧ RelM X.K H' M' ∧ RepS X.K H' M' σ' δ' ∧ loopD ok g tb E (items.drop i) δ' M',
    ⟨items.length, δ, M1, by simp, Nat.zero_le _, Keep.refl _ _, R1, S.keep k1, by simpa using h1⟩, ?_⟩
  rintro i m σ' H' ⟨δ', M', rfl, hi, k, R', S', hw⟩
  by_cases hlt : i < items.length
  · have hget : items[i]? = some items[i] := by simp [hlt]
    rw [drop_get hget] at hw
    obtain ⟨hok, hw⟩ := hw
    refine .inr ⟨it.go i H' M' k R' hok hlt, fun σ2 H2 => ∃ δ2 M2, Keep H1 M1 H2 M2 ∧ RelM X.K H2 M2 ∧ RepS X.K H2 M2 σ2 δ2 ∧ loopD ok g tb E (items.drop (i + 1)) δ2 M2,
      fun σ2 H2 ⟨δ2, M2, a, b, c, d⟩ => ⟨items.length - (i + 1), by omega, δ2, M2, rfl, hlt, a, b, c, d⟩, fun x H2 y => ?_⟩
    obtain ⟨d, hd, k2, R2, rx⟩ := it.yld i H' M' x H2 k R' hok hlt y
    rw [hget] at hd
    cases hd
    refine sim x σ' H2 _ _ δ' M' _ rx (S'.keep k2) R2 hw fun σ3 δ3 S3 _ q => ?_
    have kk := k1.trans (k.trans k2)
    refine ⟨δ3, M', _, S3, R2, q, fun δ4 M4 σ4 H4 k4 R4 S4 q4 => ⟨δ4, M4, (k.trans k2).trans k4, R4, S4, q4⟩, fun d M4 v H4 k4 R4 r4 q4 => e2 d M4 v H4 (kk.trans k4) R4 r4 q4,
      fun δ4 M4 σ4 H4 k4 R4 S4 q4 => e1 δ4 M4 σ4 H4 (kk.trans k4) R4 S4 q4, fun δ4 M4 σ4 H4 k4 R4 S4 q4 => ⟨δ4, M4, (k.trans k2).trans k4, R4, S4, q4⟩⟩
  · have e : i = items.length := by omega
    subst e
    rw [List.drop_length] at hw
    exact .inl ⟨it.stop H' M' k R' hw.1, e1 δ' M' σ' H' (k1.trans k) R' S' hw.2⟩
def wWhile (c : WT) (tb : WS) : WS := fun E δ M => ∃ W : Nat → SD → Mem → Prop, (∃ m, W m δ M) ∧ ∀ m δ M, W m δ M →
  c δ M fun b M1 => if b = true then tb { E with nx := fun δ' M' => ∃ m', m' < m ∧ W m' δ' M', ct := fun δ' M' => ∃ m', m' < m ∧ W m' δ' M', bk := E.nx } δ M1 else E.nx δ M1
theorem ds_while {c : Expr} {body : List Stmt} {tc : WT} {tb : WS} (hp : PassesOwn (model X.prog X.w) X.A X.env X.xe) (hc : DT X c tc) (hb : DSs X body tb) : DS X (.While c body [] pos) (wWhile tc tb) := by
  refine ps_imp (ps_while hp hc hb) fun D σ H ⟨δ, M, E, S, R, ⟨W, ⟨m0, w0⟩, turn⟩, e1, e2, e3, e4⟩ => ?_
  refine ⟨fun m σ' H' => ∃ δ' M', Keep H M H' M' ∧ RelM X.K H' M' ∧ RepS X.K H' M' σ' δ' ∧ W m δ' M', ⟨m0, δ, M, Keep.refl _ _, R, S, w0⟩, ?_⟩
  rintro m σ' H' ⟨δ', M', k, R', S', w⟩
  refine ⟨δ', M', _, S', R', turn m δ' M' w, fun b M1 H1 k1 R1 h1 => ?_⟩
  by_cases hb : b = true
  · rw [if_pos hb] at h1 ⊢
    refine ⟨fun σ2 H2 => ∃ δ2 M2, Keep H M H2 M2 ∧ RelM X.K H2 M2 ∧ RepS X.K H2 M2 σ2 δ2 ∧ ∃ m', m' < m ∧ W m' δ2 M2, fun σ2 H2 ⟨δ2, M2, a, b, c, m', hm, w'⟩ => ⟨m', hm, δ2, M2, a, b, c, w'⟩, ?_⟩
    have kk := k.trans k1
    exact ⟨δ', M1, _, S'.keep k1, R1, h1, fun δ4 M4 σ4 H4 k4 R4 S4 q4 => ⟨δ4, M4, kk.trans k4, R4, S4, q4⟩, fun d M4 v H4 k4 R4 r4 q4 => e2 d M4 v H4 (kk.trans k4) R4 r4 q4,
      fun δ4 M4 σ4 H4 k4 R4 S4 q4 => e1 δ4 M4 σ4 H4 (kk.trans k4) R4 S4 q4, fun δ4 M4 σ4 H4 k4 R4 S4 q4 => ⟨δ4, M4, kk.trans k4, R4, S4, q4⟩⟩
  · rw [if_neg hb] at h1 ⊢
    exact e1 δ' M1 σ' H1 (k.trans k1) R1 (S'.keep k1) h1
end
end DL
namespace DL
open PySem PySem.Spec L2
open PyProof.Rows hiding St

def mdel (M : Mem) (a : Addr) : Mem := fun b => if b = a then none else M b
theorem mdel_same {M : Mem} {a : Addr} : mdel M a a = none := by unfold mdel; rw [if_pos rfl]
theorem mdel_ne {M : Mem} {a b : Addr} (h : b ≠ a) : mdel M a b = M b := by unfold mdel; rw [if_neg h]
theorem mdel_mupd {M : Mem} {a : Addr} {o : MO} (h : M a = none) : mdel (mupd M a o) a = M := by
  funext b
  by_cases e : b = a
  · subst e; rw [mdel_same, h]
  · rw [mdel_ne e, mupd_ne e]
theorem mupd_mdel {M : Mem} {a : Addr} {o : MO} : mupd (mdel M a) a o = mupd M a o := by
  funext b
  by_cases e : b = a
  · subst e; rw [mupd_same, mupd_same]
  · rw [mupd_ne e, mdel_ne e, mupd_ne e]
theorem mdel_mupd_ne {M : Mem} {a b : Addr} {o : MO} (h : b ≠ a) : mdel (mupd M b o) a = mupd (mdel M a) b o := by
  funext c
  by_cases e : c = a
  · subst e; rw [mdel_same, mupd_ne (Ne.symm h), mdel_same]
  · rw [mdel_ne e]
    by_cases e2 : c = b
    · subst e2; rw [mupd_same, mupd_same]
    · rw [mupd_ne e2, mupd_ne e2, mdel_ne e]
def wipeD (δ : SD) : List Nat → SD
  | [] => δ
  | v :: vs => (wipeD δ vs).set v none
section
variable {K : PySem.W.Frag} {H : Hp} {M M' : Mem}
theorem RepS.clear {σ : St} {δ : SD} (S : RepS K H M σ δ) (i : Nat) : RepS K H M (σ.set i none) (δ.set i none) := by
  refine ⟨by simp [S.len], fun j e q => ?_⟩
  by_cases z : i = j
  · subst z
    by_cases l : i < δ.length
    · rw [List.getElem?_set_self l] at q; cases q
    · rw [List.getElem?_eq_none (by simp; omega)] at q; cases q
  · rw [List.getElem?_set_ne z] at q ⊢
    exact S.at_ j e q
theorem RepS.wipe {σ : St} {δ : SD} (S : RepS K H M σ δ) : ∀ vs : List Nat, RepS K H M (L2.wipe σ vs) (wipeD δ vs)
  | [] => S
  | v :: vs => (S.wipe vs).clear v
mutual
theorem RepP.drop (h : ∀ a, M a = none → M' a = none) : ∀ (d : PyData) (v : V), RepP K H M v d → RepP K H M' v d
  | .none, _, h' => by cases h'; exact .non
  | .bool _, _, h' => by cases h'; exact .bl _
  | .int _, _, h' => by cases h'; exact .int _
  | .str _, _, h' => by cases h'; exact .str _
  | .list ds, _, h' => by
    cases h' with
    | lst e n r => exact .lst e (h _ n) (RepA.dropM h ds _ r)
  | .tuple ds, _, h' => by
    cases h' with
    | tup e n r => exact .tup e (h _ n) (RepA.dropM h ds _ r)
    | ktp e r => exact .ktp e (RepA.dropM h ds _ r)
  | .dict _, _, h' => by
    cases h' with
    | dct0 e n => exact .dct0 e (h _ n)
theorem RepA.dropM (h : ∀ a, M a = none → M' a = none) : ∀ (ds : List PyData) (vs : List V), RepA K H M vs ds → RepA K H M' vs ds
  | [], _, h' => by cases h'; exact .nil
  | d :: ds, _, h' => by
    cases h' with
    | cons h1 h2 => exact .cons (RepP.drop h d _ h1) (RepA.dropM h ds _ h2)
end
theorem Rep.drop (h : ∀ a, M a = none → M' a = none) : ∀ {v : V} {d : DV}, Rep K H M v d → Rep K H M' v d
  | _, .d x, r => RepP.drop h x _ r
  | _, .r _, r => r
  | _, .s ns, ⟨a, e, r⟩ => ⟨a, e, r.elim (fun q => .inl ⟨q.1, h _ q.2⟩) .inr⟩
theorem RepL.drop (h : ∀ a, M a = none → M' a = none) {vs : List V} {ds : List DV} (r : RepL K H M vs ds) : RepL K H M' vs ds := Paired.mapP r fun _ _ q => q.drop h
theorem mupd_none {M : Mem} {D : Addr} {o : MO} (hD : M D = none) : ∀ a, mupd M D o a = none → M a = none := fun a h => by
  by_cases e : a = D
  · subst e; exact hD
  · rw [mupd_ne e] at h; exact h
theorem RelM.unM {D : Addr} {o : MO} (hD : M D = none) (R : RelM K H (mupd M D o)) : RelM K H M := fun a m e => by
  have hne : a ≠ D := by rintro rfl; rw [hD] at e; cases e
  have q := R a m (by rw [mupd_ne hne]; exact e)
  cases m with
  | lst xs => obtain ⟨vs, a1, a2⟩ := q; exact ⟨vs, a1, RepL.drop (mupd_none hD) a2⟩
  | tup xs => obtain ⟨vs, a1, a2⟩ := q; exact ⟨vs, a1, RepL.drop (mupd_none hD) a2⟩
theorem Keep.unM {H1 : Hp} {M1 : Mem} {D : Addr} {o : MO} (hD : M D = none) (k : Keep H1 M1 H (mupd M D o)) : Keep H1 M1 H M := fun a n u e => ⟨(k a n u e).1, mupd_none hD a (k a n u e).2⟩
end
theorem wipe_wipe (σ : St) (vs : List Nat) : wipe (wipe σ vs) vs = wipe σ vs := by
  have key : ∀ ws : List Nat, (∀ w ∈ ws, w ∈ vs) → wipe (wipe σ ws) vs = wipe σ vs := by
    intro ws
    induction ws with
    | nil => intro _; rfl
    | cons w ws ih =>
      intro h
      show wipe ((wipe σ ws).set w none) vs = _
      rw [wipe_set (h w (by simp)), ih fun x hx => h x (by simp [hx])]
  exact key vs fun _ h => h
def compD (ok : Mem → Prop) (g : WG) (tt : WT) (te : WE) (δ0 : SD) (D : Addr) (fin : List DV → Mem → Prop) : List DV → List DV → Mem → Prop
  | [], acc, M => ok (mupd M D (.lst acc)) ∧ fin acc M
  | x :: xs, acc, M => ok (mupd M D (.lst acc)) ∧ g x δ0 fun δ1 => tt δ1 (mupd M D (.lst acc)) fun b M2 =>
    if b = true then te δ1 M2 fun y M3 => M3 D = some (.lst acc) ∧ acc.length < sizeLine ∧ compD ok g tt te δ0 D fin xs (acc ++ [y]) (mdel M3 D)
    else M2 D = some (.lst acc) ∧ compD ok g tt te δ0 D fin xs acc (mdel M2 D)
def finF (Q : DQ) : Addr → List DV → Mem → Prop := fun _ acc M => match allD acc with
  | some xs => Q (.d (.list xs)) M
  | none => False
def finM (Q : DQ) : Addr → List DV → Mem → Prop := fun D acc M => Q (.r D) (mupd M D (.lst acc))
abbrev Fin := DQ → Addr → List DV → Mem → Prop
def wLc (fin : Fin) (ws : WI) (g : WG) (tt : WT) (te : WE) (vs : List Nat) : WE := fun δ M Q => ws δ M fun items ok M1 => ∀ D, M1 D = none → compD ok g tt te (wipeD δ vs) D (fin Q D) items [] M1
def FinOk (K : PySem.W.Frag) (fin : Fin) : Prop := ∀ (Qd : DQ) (H : Hp) (M : Mem) (D : Addr) (acc : List DV) (vs : List V), M D = none → RelM K H (mupd M D (.lst acc)) → H D = some (.lst vs) → RepL K H (mupd M D (.lst acc)) vs acc → fin Qd D acc M →
  ∃ d M', Keep H (mupd M D (.lst acc)) H M' ∧ RelM K H M' ∧ Rep K H M' (.ref D) d ∧ Qd d M'
theorem Keep.sub {H : Hp} {M M' : Mem} (h : ∀ a, M a = none → M' a = none) : Keep H M H M' := fun a n u e => ⟨e, h a n⟩
theorem finF_ok {K : PySem.W.Frag} : FinOk K finF := fun Qd H M D acc vs hD R e r h => by
  unfold finF at h
  split at h
  · rename_i xs ea
    refine ⟨.d (.list xs), M, Keep.sub (mupd_none hD), R.unM hD, ?_, h⟩
    rw [allD_eq ea] at r
    exact RepP.lst e hD (RepL.toA (RepL.drop (mupd_none hD) r))
  · exact h.elim
theorem finM_ok {K : PySem.W.Frag} : FinOk K finM := fun Qd H M D acc vs hD R e r h => ⟨.r D, _, Keep.refl _ _, R, rfl, h⟩
structure DTs (X : Cx) (ifs : List Expr) (t : WT) : Prop where
  run : PTs X ifs (liftT X.K t)
def wYes : WT := fun _ M Q => Q true M
theorem dts_nil {X : Cx} : DTs X [] wYes := ⟨⟨fun pins s σ H Q I ⟨δ, M, Qd, S, R, h, E⟩ => pts_nil.run pins s σ H Q I (E true M H (Keep.refl _ _) R h)⟩⟩
theorem dts_one {X : Cx} {c : Expr} {t : WT} (h : DT X c t) : DTs X [c] t := ⟨pts_one h⟩

section
variable {X : Cx} {elt tg iter : Expr} {ifs : List Expr} {scope : Scope} {own : List (Str × Nat)} {pos : Pos} {ws : WI} {g : TG} {gd : WG} {tt : WT} {te : WE} {fin : Fin}
theorem comp_loop {K : PySem.W.Frag} {J : It} {items : List DV} {ok : Mem → Prop} {vs : List Nat} {σ : St} {δ : SD} {D : Addr} {H0 : Hp} {M0 : Mem} {acc0 : List DV} {fn : List DV → Mem → Prop} {Q : Hp → Prop} (sim : GSim K g gd vs)
    (it : ItD K H0 (mupd M0 D (.lst acc0)) J items ok) (S : RepS K H0 (mupd M0 D (.lst acc0)) σ δ) (R : RelM K H0 (mupd M0 D (.lst acc0))) (hD : M0 D = none)
    (h : compD ok gd tt te (wipeD δ vs) D fn items acc0 M0)
    (hq : ∀ acc M H, M D = none → Keep H0 (mupd M0 D (.lst acc0)) H (mupd M D (.lst acc)) → RelM K H (mupd M D (.lst acc)) → fn acc M → Q H) :
    ∃ W : Nat → Nat → Hp → Prop, (∃ m, W 0 m H0) ∧ ∀ i m H, W i m H →
      (J.stop i H ∧ Q H) ∨ (J.go i H ∧ ∃ Nx : Hp → Prop, (∀ H', Nx H' → ∃ m', m' < m ∧ W (i + 1) m' H') ∧ ∀ x H', J.yld i H x H' → g x (wipe σ vs) H' fun σ2 H2 => wipe σ2 vs = wipe σ vs ∧ liftT K tt σ2 H2 fun b H3 =>
        if b = true then lift K te σ2 H3 fun y H4 => ∃ acc, H4 D = some (.lst acc) ∧ acc.length < sizeLine ∧ Nx (upd H4 D (.lst (acc ++ [y]))) else Nx H3) := by
  refine ⟨fun i m H => ∃ M acc, m = items.length - i ∧ i ≤ items.length ∧ M D = none ∧ Keep H0 (mupd M0 D (.lst acc0)) H (mupd M D (.lst acc)) ∧ RelM K H (mupd M D (.lst acc)) ∧ compD ok gd tt te (wipeD δ vs) D fn (items.drop i) acc M,
    ⟨items.length, M0, acc0, by simp, Nat.zero_le _, hD, Keep.refl _ _, R, by simpa using h⟩, ?_⟩
  rintro i m H ⟨M, acc, rfl, hi, hM, k, R', hw⟩
  by_cases hlt : i < items.length
  · have hget : items[i]? = some items[i] := by simp [hlt]
    rw [drop_get hget] at hw
    obtain ⟨hok, hw⟩ := hw
    refine .inr ⟨it.go i H _ k R' hok hlt, fun H2 => ∃ M2 acc2, M2 D = none ∧ Keep H0 (mupd M0 D (.lst acc0)) H2 (mupd M2 D (.lst acc2)) ∧ RelM K H2 (mupd M2 D (.lst acc2)) ∧ compD ok gd tt te (wipeD δ vs) D fn (items.drop (i + 1)) acc2 M2,
      fun H2 ⟨M2, acc2, a, b, c, d⟩ => ⟨items.length - (i + 1), by omega, M2, acc2, rfl, hlt, a, b, c, d⟩, fun x H2 y => ?_⟩
    obtain ⟨d, hd, k2, R2, rx⟩ := it.yld i H _ x H2 k R' hok hlt y
    rw [hget] at hd
    cases hd
    have kk := k.trans k2
    refine sim x (wipe σ vs) H2 _ _ (wipeD δ vs) _ _ rx ((S.keep kk).wipe vs) R2 hw fun σ3 δ3 S3 hwp q => ⟨hwp.trans (wipe_wipe σ vs), δ3, _, _, S3, R2, q, fun b M3 H3 k3 R3 h3 => ?_⟩
    by_cases hb : b = true
    · rw [if_pos hb] at h3 ⊢
      refine ⟨δ3, M3, _, S3.keep k3, R3, h3, fun y M4 v H4 k4 R4 r4 h4 => ?_⟩
      obtain ⟨hD4, hz, hn⟩ := h4
      obtain ⟨us, hu, ru⟩ := R4 D _ hD4
      have kp := Keep.put (H := H4) (o := .lst (us ++ [v])) (m' := .lst (acc ++ [y])) hD4
      refine ⟨us, hu, by rw [Paired.length ru]; exact hz, mdel M4 D, acc ++ [y], mdel_same, ?_, ?_, hn⟩
      · rw [mupd_mdel]
        exact ((kk.trans k3).trans k4).trans kp
      · rw [mupd_mdel]
        exact R4.put hD4 ⟨_, upd_same, RepL.keep kp (RepL.app ru (.cons r4 .nil))⟩
    · rw [if_neg hb] at h3 ⊢
      obtain ⟨hD3, hn⟩ := h3
      refine ⟨mdel M3 D, acc, mdel_same, ?_, ?_, hn⟩
      · rw [mupd_mdel, mupd_self hD3]
        exact kk.trans k3
      · rw [mupd_mdel, mupd_self hD3]
        exact R3
  · have e : i = items.length := by omega
    subst e
    rw [List.drop_length] at hw
    exact .inl ⟨it.stop H _ k R' hw.1, hq acc M H hM k R' hw.2⟩
theorem ItD.later {K : PySem.W.Frag} {H0 H1 : Hp} {M0 M1 : Mem} {J : It} {items : List DV} {ok : Mem → Prop} (it : ItD K H0 M0 J items ok) (k : Keep H0 M0 H1 M1) : ItD K H1 M1 J items ok :=
  ⟨fun i H M k' => it.go i H M (k.trans k'), fun i H M x H' k' => it.yld i H M x H' (k.trans k'), fun H M k' => it.stop H M (k.trans k')⟩
theorem lc_sim {K : PySem.W.Frag} {vs : List Nat} (hf : FinOk K fin) (sim : GSim K g gd vs) {σ : St} {H : Hp} {Q : VK} (h : lift K (wLc fin ws gd tt te vs) σ H Q) : tLc (liftI K ws) g (liftT K tt) (lift K te) vs σ H Q := by
  obtain ⟨δ, M, Qd, S, R, h, E⟩ := h
  refine ⟨δ, M, _, S, R, h, fun items ok M1 H1 J k1 R1 h1 it D hD => ?_⟩
  have hM := R1.no hD
  have kn := Keep.newM R1 (o := .lst []) (m := .lst []) hD
  have Rn : RelM K (upd H1 D (.lst [])) (mupd M1 D (.lst [])) := R1.newM hD ⟨[], upd_same, .nil⟩
  refine comp_loop (Q := Q (.ref D)) sim (it.later kn) ((S.keep k1).keep kn) Rn hM (h1 D hM) fun acc M2 H2 hM2 k2 R2 q => ?_
  obtain ⟨us, hu, ru⟩ := R2 D _ mupd_same
  obtain ⟨d, M', k3, R3, r3, q3⟩ := hf Qd H2 M2 D acc us hM2 R2 hu ru q
  exact E d M' _ H2 (((k1.trans kn).trans k2).trans k3) R3 r3 q3
theorem de_lc (hf : FinOk X.K fin) (hc : X.calm = true) (hN : X.N.Nodup) (hi : DI X tg iter ws) (ok : BlkOk X.N X.env.scope scope own)
    (sim : GSim X.K g gd (own.map (·.2))) (hg : ∀ (s : Shared) (H : Hp) (C : Addr) (cl : List (Str × Addr)) (fp : List Addr), PG (X.blk s H scope (compEnvC scope cl C X.env) fp) tg g) (ht : ∀ (s : Shared) (H : Hp) (C : Addr) (cl : List (Str × Addr)) (fp : List Addr), DTs (X.blk s H scope (compEnvC scope cl C X.env) fp) ifs tt)
    (he : ∀ (s : Shared) (H : Hp) (C : Addr) (cl : List (Str × Addr)) (fp : List Addr), DE (X.blk s H scope (compEnvC scope cl C X.env) fp) elt te) (hs : ∀ x, foldedSetIterable iter X.env x = pure x := by intro _; rfl) :
    DE X (.ListComp elt [⟨tg, iter, ifs, 0⟩] scope pos) (wLc fin ws gd tt te (own.map (·.2))) :=
  pe_imp (pe_lc hc hN hi ok hg (fun s H C cl fp => (ht s H C cl fp).run) he hs) fun σ H Q h => lc_sim hf sim h
theorem ds_setLc {i : Nat} {y : Str} {py spos : Pos} (hf : FinOk X.K fin) (hc : X.calm = true) (hN : X.N.Nodup) (hy : X.N[i]? = some y) (hyl : X.env.scope.names.lookup y = some .local)
    (hsw : swapsWith (.ListComp elt [⟨tg, iter, ifs, 0⟩] scope pos) (some (.Name y py)) spos.line X.env = pure true) (hi : DI X tg iter ws) (ok : BlkOk X.N X.env.scope scope own)
    (sim : GSim X.K g gd (own.map (·.2))) (hg : ∀ (s : Shared) (H : Hp) (C : Addr) (cl : List (Str × Addr)) (fp : List Addr), PG (X.blk s H scope (compEnvC scope cl C X.env) fp) tg g) (ht : ∀ (s : Shared) (H : Hp) (C : Addr) (cl : List (Str × Addr)) (fp : List Addr), DTs (X.blk s H scope (compEnvC scope cl C X.env) fp) ifs tt)
    (he : ∀ (s : Shared) (H : Hp) (C : Addr) (cl : List (Str × Addr)) (fp : List Addr), DE (X.blk s H scope (compEnvC scope cl C X.env) fp) elt te) (hs : ∀ x, foldedSetIterable iter X.env x = pure x := by intro _; rfl) :
    DS X (.Assign [.Name y py] (.ListComp elt [⟨tg, iter, ifs, 0⟩] scope pos) spos) (wAsg (wLc fin ws gd tt te (own.map (·.2))) (gNameD i)) :=
  ps_imp (ps_setLc hc hN hy hyl hsw hi ok hg (fun s H C cl fp => (ht s H C cl fp).run) he hs) fun D σ H ⟨δ, M, E, S, R, h, e1, e2, e3, e4⟩ =>
    lc_sim hf sim ⟨δ, M, _, S, R, h, fun d M1 v H1 k1 R1 r1 h1 => e1 _ M1 _ H1 k1 R1 ((S.keep k1).set r1 i) h1⟩
def wLc2 (fin : Fin) (ws : WI) (g : WG) (tt : WT) (ws1 : WI) (g1 : WG) (tt1 : WT) (te : WE) (vs vs1 : List Nat) : WE := fun δ M Q => ws δ M fun items ok M1 => ∀ D, M1 D = none → comp2 ok g tt ws1 g1 tt1 te (wipeD δ vs) vs1 D (fin Q D) items [] M1
where
  comp2 (ok : Mem → Prop) (g : WG) (tt : WT) (ws1 : WI) (g1 : WG) (tt1 : WT) (te : WE) (δ0 : SD) (vs1 : List Nat) (D : Addr) (fin : List DV → Mem → Prop) : List DV → List DV → Mem → Prop
  | [], acc, M => ok (mupd M D (.lst acc)) ∧ fin acc M
  | x :: xs, acc, M => ok (mupd M D (.lst acc)) ∧ g x δ0 fun δ1 => tt δ1 (mupd M D (.lst acc)) fun b M2 =>
    if b = true then ws1 δ1 M2 fun items1 ok1 M3 => M3 D = some (.lst acc) ∧ compD ok1 g1 tt1 te (wipeD δ1 vs1) D (fun acc' M' => comp2 ok g tt ws1 g1 tt1 te δ0 vs1 D fin xs acc' M') items1 acc (mdel M3 D)
    else M2 D = some (.lst acc) ∧ comp2 ok g tt ws1 g1 tt1 te δ0 vs1 D fin xs acc (mdel M2 D)
theorem lc2_sim {K : PySem.W.Frag} {vs vs1 : List Nat} {ws1 : WI} {g1 : TG} {gd1 : WG} {tt1 : WT} (hf : FinOk K fin) (sim : GSim K g gd vs) (sim1 : GSim K g1 gd1 vs1) {σ : St} {H : Hp} {Q : VK} (h : lift K (wLc2 fin ws gd tt ws1 gd1 tt1 te vs vs1) σ H Q) :
    tLc2 (liftI K ws) g (liftT K tt) (liftI K ws1) g1 (liftT K tt1) (lift K te) vs vs1 σ H Q := by
  obtain ⟨δ, M, Qd, S, R, h, E⟩ := h
  refine ⟨δ, M, _, S, R, h, fun items ok M1 H1 J k1 R1 h1 it D hD => ?_⟩
  have hM := R1.no hD
  have kn := Keep.newM R1 (o := .lst []) (m := .lst []) hD
  have Rn : RelM K (upd H1 D (.lst [])) (mupd M1 D (.lst [])) := R1.newM hD ⟨[], upd_same, .nil⟩
  have it' := it.later kn
  have S' := (S.keep k1).keep kn
  refine ⟨fun i m H' => ∃ M' acc, m = items.length - i ∧ i ≤ items.length ∧ M' D = none ∧ Keep (upd H1 D (.lst [])) (mupd M1 D (.lst [])) H' (mupd M' D (.lst acc)) ∧ RelM K H' (mupd M' D (.lst acc)) ∧ wLc2.comp2 ok gd tt ws1 gd1 tt1 te (wipeD δ vs) vs1 D (fin Qd D) (items.drop i) acc M',
    ⟨items.length, M1, [], by simp, Nat.zero_le _, hM, Keep.refl _ _, Rn, by simpa using h1 D hM⟩, ?_⟩
  rintro i m H' ⟨M', acc, rfl, hi, hM', k, R', hw⟩
  by_cases hlt : i < items.length
  · have hget : items[i]? = some items[i] := by simp [hlt]
    rw [drop_get hget] at hw
    obtain ⟨hok, hw⟩ := hw
    refine .inr ⟨it'.go i H' _ k R' hok hlt, fun H2 => ∃ M2 acc2, M2 D = none ∧ Keep (upd H1 D (.lst [])) (mupd M1 D (.lst [])) H2 (mupd M2 D (.lst acc2)) ∧ RelM K H2 (mupd M2 D (.lst acc2)) ∧ wLc2.comp2 ok gd tt ws1 gd1 tt1 te (wipeD δ vs) vs1 D (fin Qd D) (items.drop (i + 1)) acc2 M2,
      fun H2 ⟨M2, acc2, a, b, c, d⟩ => ⟨items.length - (i + 1), by omega, M2, acc2, rfl, hlt, a, b, c, d⟩, fun x H2 y => ?_⟩
    obtain ⟨d, hd, k2, R2, rx⟩ := it'.yld i H' _ x H2 k R' hok hlt y
    rw [hget] at hd
    cases hd
    have kk := k.trans k2
    refine sim x (wipe σ vs) H2 _ _ (wipeD δ vs) _ _ rx ((S'.keep kk).wipe vs) R2 hw fun σ3 δ3 S3 hwp q => ⟨hwp.trans (wipe_wipe σ vs), δ3, _, _, S3, R2, q, fun b M3 H3 k3 R3 h3 => ?_⟩
    by_cases hb : b = true
    · rw [if_pos hb] at h3 ⊢
      refine ⟨δ3, M3, _, S3.keep k3, R3, h3, fun items1 ok1 M4 H4 J1 k4 R4 h4 it1 => ?_⟩
      obtain ⟨hD4, h4⟩ := h4
      have eM : mupd (mdel M4 D) D (.lst acc) = M4 := by rw [mupd_mdel, mupd_self hD4]
      refine comp_loop (M0 := mdel M4 D) (acc0 := acc) (δ := δ3) sim1 (by rw [eM]; exact it1) (by rw [eM]; exact (S3.keep k3).keep k4) (by rw [eM]; exact R4) mdel_same h4 fun acc5 M5 H5 hM5 k5 R5 q5 => ?_
      rw [eM] at k5
      exact ⟨M5, acc5, hM5, ((kk.trans k3).trans k4).trans k5, R5, q5⟩
    · rw [if_neg hb] at h3 ⊢
      obtain ⟨hD3, hn⟩ := h3
      refine ⟨mdel M3 D, acc, mdel_same, ?_, ?_, hn⟩
      · rw [mupd_mdel, mupd_self hD3]
        exact kk.trans k3
      · rw [mupd_mdel, mupd_self hD3]
        exact R3
  · have e : i = items.length := by omega
    subst e
    rw [List.drop_length] at hw
    obtain ⟨us, hu, ru⟩ := R' D _ mupd_same
    obtain ⟨d, M2, k3, R3, r3, q3⟩ := hf Qd H' M' D acc us hM' R' hu ru hw.2
    exact .inl ⟨it'.stop H' _ k R' hw.1, E d M2 _ H' (((k1.trans kn).trans k).trans k3) R3 r3 q3⟩
theorem de_lc2 {tg1 iter1 : Expr} {ifs1 : List Expr} {vs1 : List Nat} {ws1 : WI} {g1 : TG} {gd1 : WG} {tt1 : WT} (hf : FinOk X.K fin) (hc : X.calm = true) (hN : X.N.Nodup) (hi : DI X tg iter ws) (ok : BlkOk X.N X.env.scope scope own) (hv : ∀ i ∈ vs1, i ∈ own.map (·.2))
    (sim : GSim X.K g gd (own.map (·.2))) (hg : ∀ (s : Shared) (H : Hp) (C : Addr) (cl : List (Str × Addr)) (fp : List Addr), PG (X.blk s H scope (compEnvC scope cl C X.env) fp) tg g) (ht : ∀ (s : Shared) (H : Hp) (C : Addr) (cl : List (Str × Addr)) (fp : List Addr), DTs (X.blk s H scope (compEnvC scope cl C X.env) fp) ifs tt)
    (hi1 : ∀ (s : Shared) (H : Hp) (C : Addr) (cl : List (Str × Addr)) (fp : List Addr), DI (X.blk s H scope (compEnvC scope cl C X.env) fp) tg1 iter1 ws1)
    (sim1 : GSim X.K g1 gd1 vs1) (hg1 : ∀ (s : Shared) (H : Hp) (C : Addr) (cl : List (Str × Addr)) (fp : List Addr), PG (X.blk s H scope (compEnvC scope cl C X.env) fp) tg1 g1) (ht1 : ∀ (s : Shared) (H : Hp) (C : Addr) (cl : List (Str × Addr)) (fp : List Addr), DTs (X.blk s H scope (compEnvC scope cl C X.env) fp) ifs1 tt1)
    (he : ∀ (s : Shared) (H : Hp) (C : Addr) (cl : List (Str × Addr)) (fp : List Addr), DE (X.blk s H scope (compEnvC scope cl C X.env) fp) elt te) (hs : ∀ x, foldedSetIterable iter X.env x = pure x := by intro _; rfl) (hs1 : ∀ env x, foldedSetIterable iter1 env x = pure x := by intro _ _; rfl) :
    DE X (.ListComp elt [⟨tg, iter, ifs, 0⟩, ⟨tg1, iter1, ifs1, 0⟩] scope pos) (wLc2 fin ws gd tt ws1 gd1 tt1 te (own.map (·.2)) vs1) :=
  pe_imp (pe_lc2 hc hN hi ok hv hg (fun s H C cl fp => (ht s H C cl fp).run) hi1 hg1 (fun s H C cl fp => (ht1 s H C cl fp).run) he hs hs1) fun σ H Q h => lc2_sim hf sim sim1 h
theorem ds_setLc2 {i : Nat} {y : Str} {py spos : Pos} {tg1 iter1 : Expr} {ifs1 : List Expr} {vs1 : List Nat} {ws1 : WI} {g1 : TG} {gd1 : WG} {tt1 : WT} (hf : FinOk X.K fin) (hc : X.calm = true) (hN : X.N.Nodup) (hy : X.N[i]? = some y) (hyl : X.env.scope.names.lookup y = some .local)
    (hsw : swapsWith (.ListComp elt [⟨tg, iter, ifs, 0⟩, ⟨tg1, iter1, ifs1, 0⟩] scope pos) (some (.Name y py)) spos.line X.env = pure true) (hi : DI X tg iter ws) (ok : BlkOk X.N X.env.scope scope own) (hv : ∀ i ∈ vs1, i ∈ own.map (·.2))
    (sim : GSim X.K g gd (own.map (·.2))) (hg : ∀ (s : Shared) (H : Hp) (C : Addr) (cl : List (Str × Addr)) (fp : List Addr), PG (X.blk s H scope (compEnvC scope cl C X.env) fp) tg g) (ht : ∀ (s : Shared) (H : Hp) (C : Addr) (cl : List (Str × Addr)) (fp : List Addr), DTs (X.blk s H scope (compEnvC scope cl C X.env) fp) ifs tt)
    (hi1 : ∀ (s : Shared) (H : Hp) (C : Addr) (cl : List (Str × Addr)) (fp : List Addr), DI (X.blk s H scope (compEnvC scope cl C X.env) fp) tg1 iter1 ws1)
    (sim1 : GSim X.K g1 gd1 vs1) (hg1 : ∀ (s : Shared) (H : Hp) (C : Addr) (cl : List (Str × Addr)) (fp : List Addr), PG (X.blk s H scope (compEnvC scope cl C X.env) fp) tg1 g1) (ht1 : ∀ (s : Shared) (H : Hp) (C : Addr) (cl : List (Str × Addr)) (fp : List Addr), DTs (X.blk s H scope (compEnvC scope cl C X.env) fp) ifs1 tt1)
    (he : ∀ (s : Shared) (H : Hp) (C : Addr) (cl : List (Str × Addr)) (fp : List Addr), DE (X.blk s H scope (compEnvC scope cl C X.env) fp) elt te) (hs : ∀ x, foldedSetIterable iter X.env x = pure x := by intro _; rfl) (hs1 : ∀ env x, foldedSetIterable iter1 env x = pure x := by intro _ _; rfl) :
    DS X (.Assign [.Name y py] (.ListComp elt [⟨tg, iter, ifs, 0⟩, ⟨tg1, iter1, ifs1, 0⟩] scope pos) spos) (wAsg (wLc2 fin ws gd tt ws1 gd1 tt1 te (own.map (·.2)) vs1) (gNameD i)) :=
  ps_imp (ps_setLc2 hc hN hy hyl hsw hi ok hv hg (fun s H C cl fp => (ht s H C cl fp).run) hi1 hg1 (fun s H C cl fp => (ht1 s H C cl fp).run) he hs hs1) fun D σ H ⟨δ, M, E, S, R, h, e1, e2, e3, e4⟩ =>
    lc2_sim hf sim sim1 ⟨δ, M, _, S, R, h, fun d M1 v H1 k1 R1 r1 h1 => e1 _ M1 _ H1 k1 R1 ((S.keep k1).set r1 i) h1⟩
theorem gssim_nil {K : PySem.W.Frag} {vs : List Nat} : GsSim K gNil gNilD vs := fun xs σ H Q ds δ M Qd r S R q E => by
  obtain ⟨rfl, q⟩ := q
  cases r
  exact ⟨rfl, E _ _ S rfl q⟩
theorem gssim_cons {K : PySem.W.Frag} {vs : List Nat} {g : TG} {gs : TGs} {gd : WG} {gsd : WGs} (s : GSim K g gd vs) (ss : GsSim K gs gsd vs) : GsSim K (gCons g gs) (gConsD gd gsd) vs := fun xs σ H Q ds δ M Qd r S R q E => by
  cases r with
  | nil => exact q.elim
  | cons r1 r2 =>
    refine ⟨_, _, rfl, s _ σ H _ _ δ M _ r1 S R q fun σ' δ' S' w' q' => ?_⟩
    exact ss _ σ' H Q _ δ' M Qd r2 S' R q' fun σ2 δ2 S2 w2 q2 => E σ2 δ2 S2 (w2.trans w') q2
theorem gsim_tup {K : PySem.W.Frag} {vs : List Nat} {n : Nat} {gs : TGs} {gsd : WGs} (s : GsSim K gs gsd vs) : GSim K (gTup K n gs) (gTupD n gsd) vs := fun v σ H Q d δ M Qd r S R q E => by
  unfold gTupD at q
  split at q
  · obtain ⟨a, vs', e1, s1, ra⟩ := RepP.tup_inv r
    exact ⟨a, vs', e1, s1, by rw [ra.length]; exact q.1, s _ σ H Q _ δ M Qd ra.toL S R q.2 E⟩
  · exact q.elim
end
end DL
namespace DL
open PySem PySem.Spec L2
open PyProof.Rows hiding St

structure FnG (P : Program) (w : World) (K : PySem.W.Frag) (mg : Str → Option Value) (base : Heap) (CX : CXT) (k : Nat) (f : Addr) (fd : FuncData) (ps : List Str) (sp : Sp) : Prop where
  len : ∀ vs H Q E, sp vs H Q E → vs.length = ps.length
  run : ∀ (A : Around) (outer : List Env) (s : Shared) (H : Hp) (args : Args) (us : List Value) (vs : List V) (Q : VK) (E : XK), Room k A → A.guards = some [] → Env0 P w K mg base A outer s H → BindsTo s fd args (ps.zip us) → Vals vs us → sp vs H Q E →
    codeAny (model P w) A (.call (.ref f) args) (CR CX outer P w H s Q E) s
section
variable {X : Cx} {CX : CXT} {k : Nat} {f C : Addr} {fd : FuncData} {ps : List Str} {sp : Sp} {dvs : List V} {ds : List Value} {E : XK} {x m : Str} {p pos apos : Pos} {e o : Expr} {es : List Expr} {ta : TE} {t : TA}
theorem run_fnG {pins : List (Addr × Obj)} {σ : St} {H : Hp} {s : Shared} {Q : VK} {us : List Value} {vs : List V} (F : FnG X.prog X.w X.K X.mg X.base CX k f fd ps sp) (hr : Room k X.A) (hgd : X.A.guards = some []) (hb : Binds X.K fd ps []) (hx : Passes CX X E)
    (I : Inv X pins σ H s) (r : Vals vs us) (h : sp vs H Q E) : wpAny (model X.prog X.w) X.A (call (.ref f) us) (EP X pins σ Q) X.xe s := by
  have hl : (us ++ []).length = ps.length := by rw [List.append_nil, ← r.length]; exact F.len _ _ _ _ h
  have hb' := hb s us I.kIn hl
  rw [List.append_nil] at hb'
  refine wpAny_call (codeAny_mono (F.run X.A X.stack s H ⟨us, []⟩ us vs Q E hr hgd I.env0 hb' r h) fun r s' hq => ?_)
  cases r with
  | error e => exact hx pins σ H s e s' I hq
  | ok fl =>
    cases fl with
    | ret u => exact I.after hq
    | next => exact False.elim hq
    | brk => exact False.elim hq
    | cont => exact False.elim hq
theorem pe_callG (F : FnG X.prog X.w X.K X.mg X.base CX k f fd ps sp) (hr : Room k X.A) (hgd : X.A.guards = some []) (hg : Gl X x) (hm : X.mg x = some (.ref f)) (hk : PySem.W.keepIn X.K (.ref f) = true) (hb : Binds X.K fd ps []) (hx : Passes CX X E)
    (ha : PA X (e :: es) t) (hdb : (x == ("__debug__" : Str)) = false := by decide) (he : starEach (e :: es) X.env = (false, eval e X.env) :: starEach es X.env := by rfl) (hpl : (backTo pos (starEach es X.env)).any (·.1) = false := by rfl) :
    PE X (.Call (.Name x p) (e :: es) [] pos) (tCall sp [] E t) := by
  refine ⟨fun pins s σ H Q I h => ?_⟩
  refine wpAny_Call_Name_kw (ld_glob I hg hm ?_ hdb)
  refine PySem.W.callWith_K (h₀ := X.base) I.ok.mod.kin hk (thn (ha.run pos pins s σ H _ I h) fun us s1 ⟨vs, H1, I1, r, q⟩ => ⟨I1.kIn, ?_⟩) he hpl
  have q : sp (vs ++ []) H1 Q E := q
  rw [List.append_nil] at q
  exact run_fnG F hr hgd hb hx I1 r q
theorem fnG_of {P : Program} {w : World} {K : PySem.W.Frag} {mg : Str → Option Value} {base : Heap} {name qual : Str} {params : Arguments} {body : List Stmt} {scope : Scope} {dV kV doc pm cdv ct oc : Value} {an od : Option Addr}
    {osl : Array (Option Value)} {N : List Str} (lk : K.lookup f = some ⟨oc, od, .func (PySem.W.fnOf name qual params body scope dV kV doc pm an cdv ct), osl⟩) (hcd : PySem.W.codeIn K cdv qual = true) (S : FnScope N ps scope)
    (len : ∀ vs H Q E, sp vs H Q E → vs.length = ps.length)
    (hbody : ∀ (A : Around) (outer : List Env) (s : Shared) (H : Hp) (vs : List V) (Q : VK) (E : XK), Room k (A.deeper (envOfC qual scope s.heap.objs.size f cdv)) → A.guards = some [] → sp vs H Q E →
      ∃ t, PSs (cxOf CX P w K mg base N qual scope f cdv A outer s H E) body t ∧ t { nx := fun _ H' => Q .non H', rt := Q } (L2.start N vs) H) :
    FnG P w K mg base CX (k + 1) f (PySem.W.fnOf name qual params body scope dV kV doc pm an cdv ct) ps sp := by
  refine ⟨len, fun A outer s H args us vs Q E hr hgd e0 hb r hsp => ?_⟩
  have hl := len _ _ _ _ hsp
  have KX : K.In s.heap := e0.mod.kin.keeps fun b o e => (e0.bs b o e).1
  have lim : s.heap.NoLimit := e0.mod.nolimit.keeps fun b o e => (e0.bs b o e).1
  have hkind : ∀ y ∈ ps.zip us, scope.names.lookup y.1 = some .local ∨ (scope.names.lookup y.1 = some .cell ∧ ((cellsFrom (s.heap.objs.size + 1) scope.names []).lookup y.1).isSome = true) := fun ⟨n, v⟩ hy => by
    rcases S.par n (List.of_mem_zip hy).1 with q | q
    · exact .inl q
    · exact .inr ⟨q, PySem.W.cellsFrom_some _ _ _ (.inl q)⟩
  refine codeAny_call_function hr.depth (KX _ _ lk) rfl S.co S.gen rfl (PySem.W.codeRec_of KX hcd) (hb _ _ _ _ ?_)
  refine wpAny_newFunctionEnv_cells S.kind hkind fun env he s1 x => ?_
  subst he
  refine ⟨lim.keeps x.toInCall.keep, codeAny_func ?_⟩
  obtain ⟨t, ht, hq⟩ := hbody A outer s H vs Q E (hr.deeper _) hgd hsp
  have I : Inv (cxOf CX P w K mg base N qual scope f cdv A outer s H E) [] (L2.start N vs) H s1 := inv_start S hr.hd e0 hl r x
  refine wpAny_mono (ht.run [] s1 (L2.start N vs) H _ I hq) (fun fl s' hs => ?_) fun e s' hs => hs
  have fin : ∀ {σ' : St} {H' : Hp} {v : V} {u : Value}, Inv (cxOf CX P w K mg base N qual scope f cdv A outer s H E) [] σ' H' s' → RelV v u → Q v H' → CE outer P w H s Q u s' :=
    fun {σ' H' v u} J rv q => ⟨v, H', J.os, J.bare, J.base, J.hok, rv, q⟩
  cases fl with
  | ret u =>
    obtain ⟨v, σ', H', J, rv, q⟩ := hs
    exact fin J rv q
  | next =>
    obtain ⟨σ', H', J, q⟩ := hs
    exact fin (v := V.non) (u := Value.none) J rfl q
  | brk =>
    obtain ⟨_, _, _, q⟩ := hs
    exact False.elim q
  | cont =>
    obtain ⟨_, _, _, q⟩ := hs
    exact False.elim q
end
abbrev SpD := List DV → Mem → DQ → Prop
def liftF (K : PySem.W.Frag) (sp : SpD) : Sp := fun vs H Q _ => ∃ ds M Qd, RepL K H M vs ds ∧ RelM K H M ∧ sp ds M Qd ∧ EndD K H M Qd Q
def DFn (P : Program) (w : World) (K : PySem.W.Frag) (mg : Str → Option Value) (base : Heap) (k : Nat) (f : Addr) (fd : FuncData) (ps : List Str) (sp : SpD) : Prop := FnG P w K mg base CX0 k f fd ps (liftF K sp)
structure Callee (P : Program) (w : World) (K : PySem.W.Frag) (mg : Str → Option Value) (base : Heap) (x : Str) (k : Nat) (ps : List Str) (sp : SpD) : Prop where
  ex : ∃ (f : Addr) (fd : FuncData), mg x = some (.ref f) ∧ PySem.W.keepIn K (.ref f) = true ∧ Binds K fd ps [] ∧ DFn P w K mg base k f fd ps sp
def wCall (sp : SpD) (wr : WA) : WE := fun δ M Q => wr δ M fun ds M1 => sp ds M1 Q
theorem de_call {X : Cx} {k j : Nat} {ps : List Str} {sp : SpD} {x : Str} {p pos : Pos} {e : Expr} {es : List Expr} {wr : WA} (F : Callee X.prog X.w X.K X.mg X.base x k ps sp) (hr : Room j X.A) (hgd : X.A.guards = some []) (ha : DA X (e :: es) wr) (hg : Gl X x := by rfl) (hj : k ≤ j := by omega)
    (hdb : (x == ("__debug__" : Str)) = false := by decide) (he : starEach (e :: es) X.env = (false, eval e X.env) :: starEach es X.env := by rfl) (hpl : (backTo pos (starEach es X.env)).any (·.1) = false := by rfl) :
    DE X (.Call (.Name x p) (e :: es) [] pos) (wCall sp wr) := by
  obtain ⟨f, fd, hm, hk, hb, F⟩ := F.ex
  exact pe_imp (pe_callG (E := E0) F (hr.mono hj) hgd hg hm hk hb pass0 ha hdb he hpl) fun σ H Q ⟨δ, M, Qd, S, R, h, E⟩ => ⟨δ, M, _, S, R, h, fun ds M1 vs H1 k1 R1 r1 h1 => by
    show liftF X.K sp (vs ++ []) H1 Q E0
    rw [List.append_nil]
    exact ⟨ds, M1, Qd, r1, R1, h1, E.step k1⟩⟩
def startD (N : List Str) (ds : List DV) : SD := ds.map some ++ List.replicate (N.length - ds.length) none
theorem repS_start {K : PySem.W.Frag} {H : Hp} {M : Mem} {vs : List V} {ds : List DV} {N : List Str} (r : RepL K H M vs ds) : RepS K H M (L2.start N vs) (startD N ds) := by
  have hl := Paired.length r
  unfold L2.start startD
  refine ⟨by simp [hl], fun i d e => ?_⟩
  by_cases h : i < ds.length
  · rw [List.getElem?_append_left (by simpa using h), List.getElem?_map] at e
    rw [List.getElem?_append_left (by simpa [hl] using h), List.getElem?_map]
    cases q : ds[i]? with
    | none => rw [q] at e; cases e
    | some d' =>
      rw [q] at e
      cases e
      obtain ⟨v, hv, rv⟩ := RepL.get r q
      exact ⟨v, by rw [hv]; rfl, rv⟩
  · rw [List.getElem?_append_right (by simpa using h), List.getElem?_replicate] at e
    split at e <;> cases e
section
variable {P : Program} {w : World} {K : PySem.W.Frag} {mg : Str → Option Value} {base : Heap}
theorem fun_okD {x qual : Str} {st : Stmt} {f : Addr} {fd : FuncData} {N ps : List Str} {k : Nat} {sp : SpD} (F : Fun K x qual st f fd) (S : FnScope N ps (defScope st)) (len : ∀ ds M Q, sp ds M Q → ds.length = ps.length)
    (hbody : ∀ (cdv : Value) (A : Around) (outer : List Env) (s : Shared) (H : Hp) (E : XK), Room k (A.deeper (envOfC qual (defScope st) s.heap.objs.size f cdv)) → A.guards = some [] → ∀ (ds : List DV) (M : Mem) (Q : DQ), sp ds M Q →
      ∃ wd, DSs (cxOf CX0 P w K mg base N qual (defScope st) f cdv A outer s H E).nox (defBody st) wd ∧ wd { nx := fun _ M' => Q (.d .none) M', rt := Q } (startD N ds) M) : DFn P w K mg base (k + 1) f fd ps sp := by
  obtain ⟨oc, od, kV, doc, pm, an, cdv, ct, osl, rfl, lk, hcd⟩ := F.ex
  refine fnG_of lk hcd S (fun vs H Q E ⟨ds, M, Qd, r, R, h, _⟩ => by rw [Paired.length r]; exact len ds M Qd h) fun A outer s H vs Q E hr hgd hsp => ?_
  obtain ⟨ds, M, Qd, r, R, h, En⟩ := hsp
  obtain ⟨wd, hd, hw⟩ := hbody cdv A outer s H E hr hgd ds M Qd h
  refine ⟨_, PSs.nox hd, ⟨startD N ds, M, _, repS_start r, R, hw, fun δ' M' σ' H' k' R' S' q => En (.d .none) M' .non H' k' R' .non q, fun d M' v H' k' R' r' q => En d M' v H' k' R' r' q, fun _ _ _ _ _ _ _ q => q.elim, fun _ _ _ _ _ _ _ q => q.elim⟩⟩
theorem callee_mk {x qual nm : Str} {st : Stmt} {f : Addr} {fd : FuncData} {ps : List Str} {k : Nat} {sp : SpD} (F : Fun K x qual st f fd) (hm : mg nm = some (.ref f)) (hb : Binds K fd ps []) (D : DFn P w K mg base k f fd ps sp) : Callee P w K mg base nm k ps sp :=
  ⟨f, fd, hm, F.kp, hb, D⟩
end

def spLaw (n : Nat) : SpD := fun ds M Q => ∃ ns : List Int, ds = [.s ns] ∧ ns.length ≤ n ∧ ∀ M', Q (.d (.bool true)) M'
theorem law_callG {P : Program} {w : World} {K : PySem.W.Frag} {mg mb : Str → Option Value} {CX : CXT} {k : Nat} {fa a : Addr} {fd : FuncData} {x : Str} {sp : Sp} {s₁ : Shared} {vs : List Value} {ns : List Int}
    (KX : K.In s₁.heap) (hns : s₁.heap.Ns mainGlobals mg) (hb : s₁.heap.Ns builtinsNs mb) (hbb : ∀ x : Str, x ≠ "__name__" → mb x = bootBuiltins x) (hlim : s₁.heap.NoLimit) (hg : s₁.gens = #[])
    (ha : s₁.heap.get? a = some { cls := .type "list", data := .seq vs.toArray }) (hi : IntsAre vs ns) (hl : ns.length ≤ sizeLine) (hr : Room k callerA)
    (F : ∀ base : Heap, K.In base → base.Ns mainGlobals mg → FnG P w K mg base CX k fa fd [x] sp) (hbind : ∀ (s : Shared) (u : Value), BindsTo s fd ⟨[u], []⟩ [(x, u)])
    (hsp : ∀ H : Hp, Only H → SqL K H a (ns.map V.int) → sp [.ref a] H (fun v _ => v = .bl true) fun _ _ _ => False)
    (hCX : ∀ H e s', CX [] H s₁ (fun _ _ _ => False) e s' → False) :
    codeAny (model P w) callerA (.call (.ref fa) ⟨[.ref a], []⟩) (fun r s' => r = .ok (.ret (.bool true)) ∧ OldK s₁.heap s'.heap ∧ s'.os = s₁.os ∧ AllBare s'.gens) s₁ := by
  have rv := vals_ints hi
  have lenV := hi.length
  have core : ∀ H : Hp, Only H → SqL K H a (ns.map V.int) → HOk P w H s₁.heap → (∀ b, H b ≠ none → b = a) → (H a ≠ none → K.lookup a = none) →
      codeAny (model P w) callerA (.call (.ref fa) ⟨[.ref a], []⟩) (fun r s' => r = .ok (.ret (.bool true)) ∧ OldK s₁.heap s'.heap ∧ s'.os = s₁.os ∧ AllBare s'.gens) s₁ := by
    intro H hO hS hok hA hK
    have base_of : ∀ {b : Addr} {o : Obj}, s₁.heap.get? b = some o → H b = none → (hidT s₁.heap H).get? b = some o := fun e n => hidT_get e n
    have noA : ∀ {b : Addr} {o : Obj} {es : Array DictEntry} {ep : Nat}, s₁.heap.get? b = some o → o.data = .dict es ep → H b = none := fun {b o es ep} e d => by
      cases q : H b with
      | none => rfl
      | some u =>
        have e' : b = a := hA b (by rw [q]; simp)
        subst e'
        rw [ha] at e; cases e
        have d' : Data.seq vs.toArray _ = Data.dict es ep := d
        cases d'
    have nsK : ∀ {b : Addr} {m : Str → Option Value}, s₁.heap.Ns b m → (hidT s₁.heap H).Ns b m := fun {b m} ⟨o, es, ep, e, d, r⟩ => ⟨o, es, ep, base_of e (noA e d), d, r⟩
    have hKb : K.In (hidT s₁.heap H) := fun b o e => base_of (KX b o e) (by
      cases q : H b with
      | none => rfl
      | some u =>
        have e' : b = a := hA b (by rw [q]; simp)
        subst e'
        rw [hK (by rw [q]; simp)] at e; cases e)
    have hM : Mod K mg (hidT s₁.heap H) := ⟨hKb, nsK hns, ⟨mb, nsK hb, hbb⟩, let ⟨mc, h1, h2⟩ := hlim; ⟨mc, nsK h1, h2⟩⟩
    have e0 : Env0 P w K mg (hidT s₁.heap H) callerA [] s₁ H := ⟨rfl, hM, fun b o e => of_hidT e, Nat.le_of_eq (hidT_size _ _), trivial, fun b hb => absurd (show b ∈ ([] : List Addr) from hb) (by simp), hok, .of_eq hg⟩
    refine codeAny_mono ((F _ hKb (nsK hns)).run callerA [] s₁ H ⟨[.ref a], []⟩ [.ref a] [.ref a] _ _ hr rfl e0 (hbind s₁ (.ref a)) (.cons rfl .nil) (hsp H hO hS)) fun r s' h => ?_
    cases r with
    | error e => exact (hCX H e s' h).elim
    | ok fl =>
      cases fl with
      | next => exact False.elim h
      | brk => exact False.elim h
      | cont => exact False.elim h
      | ret u =>
        obtain ⟨v, H', os, bare, un, hok', r', q⟩ := h
        have q' : v = .bl true := q
        subst q'
        obtain rfl : u = Value.bool true := r'
        refine ⟨rfl, OldK.of_keep fun b o e => ?_, os, bare⟩
        cases q : H b with
        | none => exact un.keep b o e q (by intro z; exact absurd (show b ∈ ([] : List Addr) from z) (by simp)) (by simp)
        | some u =>
          rcases hO b with z | ⟨ob, xs, z⟩
          · rw [q] at z; cases z
          · have z2 := un.frzs b ob _ z
            obtain ⟨e1, _⟩ := hok b _ z
            obtain ⟨e2, _⟩ := hok' b _ z2
            rw [e] at e1; cases e1
            exact e2
  cases hk : K.lookup a with
  | some o =>
    have e := KX a o hk
    rw [ha] at e
    cases e
    refine core (fun _ => none) (fun _ => .inl rfl) (.inr ⟨_, vs.toArray, _, hk, rfl, rfl, rfl, by rw [List.size_toArray, lenV]; exact hl, by simpa using rv⟩) (fun b u z => by have z' : (none : Option HO) = some u := z; cases z') (fun b z => absurd rfl z) fun z => absurd rfl z
  | none =>
    refine core (fun b => if b = a then some (.frz { cls := .type "list", data := .seq vs.toArray } (.lst (ns.map V.int))) else none) (fun b => ?_) (.inl (.inr ⟨{ cls := .type "list", data := .seq vs.toArray }, if_pos rfl⟩)) (fun b u z => ?_) (fun b z => ?_) fun _ => hk
    · by_cases hb : b = a
      · exact .inr ⟨_, _, if_pos hb⟩
      · exact .inl (if_neg hb)
    · by_cases hb : b = a
      · have z' := (if_pos hb).symm.trans z
        cases z'
        subst hb
        exact ⟨ha, by rw [List.length_map]; exact hl, vs, _, rv, ha⟩
      · have z' := (if_neg hb).symm.trans z
        cases z'
    · by_cases hb : b = a
      · exact hb
      · exact absurd (if_neg hb) z
theorem walk_ofD {l : PySem.W.OpenLaw} {k : Nat} {q : Program} {loose : List Str} {XP : (Str → Option Value) → Heap → Prop} {YP : World → Heap → Prop} {d : DefRec} {K : Params → PySem.W.Frag} {x : Str}
    (hn : l.most = some 63) (hdf : d.params.defaults = []) (hr : Room k callerA)
    (hY : ∀ (w : World) (h : Heap), YP w h → (K w.params).In h)
    (F : ∀ (w : World) (mg : Str → Option Value) (fa : Addr) (h : Heap), (K w.params).In h → h.Ns mainGlobals mg → mg d.name = some (.ref fa) →
      ∃ fd : FuncData, (∀ (s : Shared) (u : Value), BindsTo s fd ⟨[u], []⟩ [(x, u)]) ∧
        ∀ base : Heap, (K w.params).In base → base.Ns mainGlobals mg → DFn l.prog w (K w.params) mg base k fa fd [x] (spLaw 63)) :
    PySem.W.WalkO q loose XP YP l.row.toRowW d [] (fun f vs => PySem.call f vs) := by
  refine Att.attach_call hn hdf fun w s₀ s₁ mg mb fa o pm cd doc a vs ns G Y ho hd hcd hmg hobj hints hlen hg => ?_
  have KX := hY w _ Y
  obtain ⟨fd, hb, hF⟩ := F w mg fa _ KX G.T.g hmg
  refine law_callG KX G.T.g G.T.b G.T.builtins G.T.nolimit hg hobj hints (Nat.le_trans hlen (by decide)) hr hF hb (fun H hO hS => ?_) fun _ _ _ z => z
  refine ⟨[.s ns], fun _ => none, fun d _ => d = .d (.bool true), .cons ⟨a, rfl, ?_⟩ .nil, (fun a m e => nomatch e), ⟨ns, rfl, hlen, fun _ => rfl⟩, fun d M' v H' _ _ r q => ?_⟩
  · rcases hS with h | h
    · exact .inl ⟨h, rfl⟩
    · exact .inr h
  · subst q
    exact RepP.bl_inv r
end DL
namespace DL
open PySem PySem.Spec L2
open PyProof.Rows hiding St

section
variable {X : Cx} {pins : List (Addr × Obj)} {σ : St} {H : Hp} {M : Mem} {s : Shared}
mutual
theorem RepP.reprK (I : Inv X pins σ H s) : ∀ (d : PyData) (v : V) (u : Value), RepP X.K H M v d → RelV v u → d.showable = true → d.shown.length ≤ sizeLine → ∃ bs, ReadAtMost s.heap d.depth bs ∧ ReprK X.prog X.w bs s.heap d.depth u d.shown
  | .none, _, _, h, r, _, _ => by
    cases h; cases r
    exact ⟨[], (fun _ h => nomatch h), by simp only [PyData.shown]; exact .of_is ReprIs.none _ _ _⟩
  | .bool b, _, _, h, r, _, _ => by
    cases h; cases r
    exact ⟨[], (fun _ h => nomatch h), by simp only [PyData.shown]; exact .of_is (ReprIs.bool b) _ _ _⟩
  | .int i, _, _, h, r, hs, _ => by
    cases h
    obtain ⟨t, rfl⟩ := r
    exact ⟨[], (fun _ h => nomatch h), by simp only [PyData.shown]; exact .of_is (ReprIs.int t (by simpa [PyData.showable] using hs)) _ _ _⟩
  | .str x, _, _, h, r, _, hz => by
    cases h
    obtain ⟨t, rfl⟩ := r
    exact ⟨[], (fun _ h => nomatch h), by simp only [PyData.shown]; exact .of_is (ReprIs.str x t (by simpa only [PyData.shown] using hz)) _ _ _⟩
  | .list ds, _, _, h, r, hs, hz => by
    obtain ⟨as, rd⟩ := RepP.reads I _ _ _ h r
    have hz' : (listText (PyData.shownAll ds)).length ≤ sizeLine := by simpa only [PyData.shown] using hz
    cases h with
    | lst e n ha =>
      rename_i a xs
      cases r
      obtain ⟨its, rv, ⟨o, n, ho, hc, _, hd⟩, _⟩ := I.list (SqL.of e)
      obtain ⟨bs, hb, hk⟩ := RepA.reprK I ds _ its ha rv (by simpa [PyData.showable] using hs) (fun t ht => Nat.le_trans (listText_mem_le ht) hz')
      have hna : a ∉ bs := not_mem_of_deeper rd (by simp only [PyData.depth]; omega) hb
      refine ⟨a :: bs, ReadAtMost.cons rd (by simp only [PyData.depth]; omega) hb, ?_⟩
      simp only [PyData.depth, PyData.shown]
      cases rv with
      | nil =>
        cases ha
        simp only [PyData.shownAll, listText_nil]
        exact ReprK.listEmpty ho hc hd
      | cons r1 r2 => exact ReprK.list ho hc hd hna (by simpa using hk.length_eq) (fun i y e => hk.item i y (by simpa using e))
  | .tuple ds, _, _, h, r, hs, hz => by
    obtain ⟨as, rd⟩ := RepP.reads I _ _ _ h r
    have hz' : (tupleText (PyData.shownAll ds)).length ≤ sizeLine := by simpa only [PyData.shown] using hz
    obtain ⟨a, xs, e, hq, ha⟩ := RepP.tup_inv h
    subst e
    cases r
    obtain ⟨its, rv, ⟨o, ho, hc, n, hd⟩, _⟩ := I.tuple hq
    obtain ⟨bs, hb, hk⟩ := RepA.reprK I ds _ its ha rv (by simpa [PyData.showable] using hs) (fun t ht => Nat.le_trans (tupleText_mem_le ht) hz')
    have hna : a ∉ bs := not_mem_of_deeper rd (by simp only [PyData.depth]; omega) hb
    refine ⟨a :: bs, ReadAtMost.cons rd (by simp only [PyData.depth]; omega) hb, ?_⟩
    simp only [PyData.depth, PyData.shown]
    exact ReprK.tuple ho hc hd hna (by simpa using hk)
  | .dict _, _, _, h, r, hs, hz => by
    obtain ⟨as, rd⟩ := RepP.reads I _ _ _ h r
    cases h with
    | dct0 e n =>
      rename_i a
      cases r
      obtain ⟨_, hsys, vs, kv, o, es, ep, ho, ex, hd, _, hp, _⟩ := I.hok _ _ e
      cases kv
      have hes : es.toList = [] := by
        cases q : es.toList with
        | nil => rfl
        | cons x l => rw [q] at hp; cases hp
      refine ⟨[a], ReadAtMost.cons rd (by simp only [PyData.depth]; omega : (0 : Nat) ≤ _) (fun _ h => nomatch h), ?_⟩
      simp only [PyData.depth, PyData.shown, PyData.shownKv, PyData.depthKv]
      exact ReprK.dict ho ex.1 hd hsys (by simp) (by rw [hes]; exact .nil)
theorem RepA.reprK (I : Inv X pins σ H s) : ∀ (ds : List PyData) (vs : List V) (us : List Value), RepA X.K H M vs ds → Vals vs us → PyData.showableAll ds = true → (∀ t ∈ PyData.shownAll ds, t.length ≤ sizeLine) →
    ∃ bs, ReadAtMost s.heap (PyData.depthAll ds) bs ∧ ReprAllK X.prog X.w bs s.heap (PyData.depthAll ds) us (PyData.shownAll ds)
  | [], _, _, h, r, _, _ => by
    cases h; cases r
    exact ⟨[], (fun _ h => nomatch h), by simp only [PyData.shownAll]; exact .nil⟩
  | d :: ds, _, _, h, r, hs, hz => by
    cases h with
    | cons h1 h2 =>
      cases r with
      | cons r1 r2 =>
        have hs' : d.showable = true ∧ PyData.showableAll ds = true := by simpa [PyData.showableAll] using hs
        obtain ⟨b1, hb1, k1⟩ := RepP.reprK I d _ _ h1 r1 hs'.1 (hz _ (by simp only [PyData.shownAll]; exact List.mem_cons_self ..))
        obtain ⟨b2, hb2, k2⟩ := RepA.reprK I ds _ _ h2 r2 hs'.2 (fun t ht => hz t (by simp only [PyData.shownAll]; exact List.mem_cons_of_mem _ ht))
        refine ⟨b1 ++ b2, ?_, ?_⟩
        · intro b hm
          simp only [PyData.depthAll]
          rcases List.mem_append.mp hm with hm | hm
          · obtain ⟨d', as', r', hd'⟩ := hb1 b hm
            exact ⟨d', as', r', Nat.le_trans hd' (Nat.le_max_left _ _)⟩
          · obtain ⟨d', as', r', hd'⟩ := hb2 b hm
            exact ⟨d', as', r', Nat.le_trans hd' (Nat.le_max_right _ _)⟩
        · simp only [PyData.depthAll, PyData.shownAll]
          exact .cons ((k1.more fun b hb => List.mem_append_left _ hb).level_le (Nat.le_max_left _ _)) (k2.more_le (fun b hb => List.mem_append_right _ hb) (Nat.le_max_right _ _))
end
def Showy (d : PyData) : Prop := d.showable = true ∧ d.depth ≤ 60 ∧ d.shown.length ≤ sizeLine
def reprD : List DV → Mem → DQ → Prop
  | [.d x], M, Q => Showy x ∧ Q (.d (.str x.shown)) M
  | _, M, Q => False
theorem repr_ok (hg : X.A.guards = some []) (hu : X.A.units + 64 < cLine) (I : Inv X pins σ H s) {d : PyData} {v : V} {u : Value} (h : RepP X.K H M v d) (r : RelV v u) (hs : Showy d) {Q : Value → Shared → Prop} {E : Value → Shared → Prop}
    (hQ : ∀ h' t tk, (∀ b o, s.heap.get? b = some o → h'.get? b = some o) → Q (.str d.shown t) { s with heap := h', toks := tk }) : wpAny (model X.prog X.w) X.A (call (.builtin "repr") [u]) Q E s := by
  obtain ⟨hs, hdp, hz⟩ := hs
  cases d with
  | none =>
    cases h; cases r
    exact P.repr_of_none (by have := hQ s.heap s.toks (s.toks + 1) fun _ _ e => e; simpa only [PyData.shown] using this)
  | bool b =>
    cases h; cases r
    exact P.repr_of_bool (by have := hQ s.heap s.toks (s.toks + 1) fun _ _ e => e; simpa only [PyData.shown] using this)
  | int i =>
    cases h
    obtain ⟨t, rfl⟩ := r
    exact P.repr_of_int (by simpa [PyData.showable] using hs) (by have := hQ s.heap s.toks (s.toks + 1) fun _ _ e => e; simpa only [PyData.shown] using this)
  | str x =>
    cases h
    obtain ⟨t, rfl⟩ := r
    exact P.repr_of_str (by have := hQ s.heap s.toks (s.toks + 1) fun _ _ e => e; simpa only [PyData.shown] using this) (by simpa only [PyData.shown] using hz)
  | list ds =>
    have hz' : (listText (PyData.shownAll ds)).length ≤ sizeLine := by simpa only [PyData.shown] using hz
    obtain ⟨as, rd⟩ := RepP.reads I _ _ _ h r
    cases h with
    | lst e n ha =>
      rename_i a xs
      cases r
      obtain ⟨its, rv, ⟨o, n, ho, hc, _, hd⟩, _⟩ := I.list (SqL.of e)
      obtain ⟨bs, hb, hk⟩ := RepA.reprK I ds _ its ha rv (by simpa [PyData.showable] using hs) (fun t ht => Nat.le_trans (listText_mem_le ht) hz')
      have hna : a ∉ bs := not_mem_of_deeper rd (by simp only [PyData.depth]; omega) hb
      have hdp' : PyData.depthAll ds + 1 ≤ 60 := by simpa only [PyData.depth] using hdp
      refine call_repr_slot (by omega) ⟨o, ho, hc⟩ F.slot_list_repr.toG ?_
      simp only [PyData.shown] at hQ
      cases rv with
      | nil =>
        cases ha
        simp only [PyData.shownAll, listText_nil] at hQ
        exact call_list_repr_empty ⟨o, ho, hc⟩ ho hd ⟨_, _, rfl, hQ s.heap _ _ fun _ _ e => e⟩
      | cons r1 r2 =>
        exact call_list_reprK ho hc hd hna (by simpa using hk.length_eq) (fun i y e => hk.item i y (by simpa using e)) (show X.A.in1.guards = some [] from hg) (fun b _ => Clear.nil b) (by show X.A.units + 1 + (_ + 1) < cLine; omega) (fun _ _ e => e)
          (fun h' t tk k => ⟨_, _, rfl, hQ h' t tk k⟩) hz'
  | tuple ds =>
    have hz' : (tupleText (PyData.shownAll ds)).length ≤ sizeLine := by simpa only [PyData.shown] using hz
    obtain ⟨as, rd⟩ := RepP.reads I _ _ _ h r
    obtain ⟨a, xs, e, hq, ha⟩ := RepP.tup_inv h
    subst e
    cases r
    obtain ⟨its, rv, ⟨o, ho, hc, n, hd⟩, _⟩ := I.tuple hq
    obtain ⟨bs, hb, hk⟩ := RepA.reprK I ds _ its ha rv (by simpa [PyData.showable] using hs) (fun t ht => Nat.le_trans (tupleText_mem_le ht) hz')
    have hna : a ∉ bs := not_mem_of_deeper rd (by simp only [PyData.depth]; omega) hb
    have hdp' : PyData.depthAll ds + 1 ≤ 60 := by simpa only [PyData.depth] using hdp
    refine call_repr_slot (by omega) ⟨o, ho, hc⟩ F.slot_tuple_repr ?_
    simp only [PyData.shown] at hQ
    exact call_tuple_reprK ho hc hd hna (by simpa using hk) (show X.A.in1.guards = some [] from hg) (fun b _ => Clear.nil b) (by show X.A.units + 1 + (_ + 1) < cLine; omega) (fun _ _ e => e)
      (fun h' t tk k => ⟨_, _, rfl, hQ h' t tk k⟩) hz'
  | dict kvs =>
    cases h with
    | dct0 e n =>
      rename_i a
      cases r
      obtain ⟨_, hsys, vs, kv, o, es, ep, ho, ex, hd, _, hp, _⟩ := I.hok _ _ e
      cases kv
      have hes : es.toList = [] := by
        cases q : es.toList with
        | nil => rfl
        | cons x l => rw [q] at hp; cases hp
      refine call_repr_slot (by omega) ⟨o, ho, ex.1⟩ F.slot_dict_repr ?_
      simp only [PyData.shown, PyData.shownKv] at hQ
      refine call_dict_reprK (as := []) (d := 0) (ps := []) ho ex.1 hd hsys (by simp) (by rw [hes]; exact .nil) (show X.A.in1.guards = some [] from hg) (fun b _ => Clear.nil b) (by show X.A.units + 1 + (0 + 1) < cLine; omega) (fun _ _ e => e)
        (fun h' t tk k => ⟨_, _, rfl, hQ h' t tk k⟩) (by decide +kernel)
theorem cd_repr (hg : X.A.guards = some []) (hu : X.A.units + 64 < cLine) : CallD X (.builtin "repr") reprD := by
  intro pins s σ H xs us Q I rs ⟨ds, M, Qd, R, rx, h, E⟩
  unfold reprD at h
  split at h
  · obtain ⟨v, rfl, rv⟩ := one_inv rx
    obtain ⟨u, rfl, ru⟩ := vals1 rs
    exact repr_ok hg hu I rv ru h.1 fun h' t tk k => ⟨.str _, H, I.kept k, ⟨_, rfl⟩, E (.d _) _ _ _ (Keep.refl _ _) R (.str _) h.2⟩
  · exact h.elim
end
end DL
namespace DL
open PySem PySem.Spec L2 RZ
open PyProof.Rows hiding St

def seqD : DV → Mem → (List DV → (Mem → Prop) → Mem → Prop) → Prop
  | .d (.list xs), M, Q => Q (xs.map .d) (fun _ => True) M
  | .d (.tuple xs), M, Q => Q (xs.map .d) (fun _ => True) M
  | .r a, M, Q => (match M a with
    | some (.lst xs) => Q xs (fun M' => M' a = some (.lst xs)) M
    | _ => False)
  | _, _, _ => False
def srcS (we : WE) : WI := fun δ M Q => we δ M fun x M1 => seqD x M1 Q
section
variable {X : Cx} {tg l : Expr} {we : WE} {pos : Pos}
theorem di_seq (hl : DE X l we) : DI X tg l (srcS we) := by
  refine ⟨fun pins s σ H R I ⟨δ, M, Qd, S, Rm, h, E⟩ => ?_⟩
  refine thn (hl.run pins s σ H _ I ⟨δ, M, _, S, Rm, h, fun d M1 v H1 k1 R1 r1 h1 => (show ∃ d M1, Keep H M H1 M1 ∧ RelM X.K H1 M1 ∧ Rep X.K H1 M1 v d ∧ seqD d M1 Qd from ⟨d, M1, k1, R1, r1, h1⟩)⟩) fun u s1 ⟨v, H1, I1, ru, d, M1, k1, R1, r1, h1⟩ => ?_
  have lst : ∀ (a : Addr) (xs : List V) (items : List DV) (ok : Mem → Prop), u = .ref a → SqL X.K H1 a xs → Qd items ok M1 → ItD X.K H1 M1 (Itl X.K a) items ok → wpAny (model X.prog X.w) X.A (pyIter u) (PIE X pins σ tg R) X.xe s1 := fun a xs items ok e hq q it => by
    subst e
    obtain ⟨its, rv, p, hz⟩ := I1.list hq
    refine wpAny_pyIter_list p.isList ?_
    refine ⟨s1.heap.objs.size, [s1.heap.objs.size], _, _, H1, rfl, I1.kept (t' := s1.toks) fun b o e => Heap.get?_push_of_some _ e, turn_list a _, ⟨_, Heap.get?_push_size _ rfl, rfl, rfl⟩, fun b hb => ?_, E items ok M1 H1 _ k1 R1 q it⟩
    have e : b = s1.heap.objs.size := by simpa using hb
    subst e
    exact I1.fpOk (Nat.le_refl _) (I1.hok.fresh (Nat.le_refl _))
  unfold seqD at h1
  split at h1
  · obtain ⟨a, xs, e1, s1', n1, ra⟩ := RepP.lst_inv r1
    subst e1
    exact lst a xs _ _ ru (SqL.of s1') h1 (itd_lst s1' n1 ra)
  · obtain ⟨a, e1, ⟨xs, hs⟩, it⟩ := itd_tup r1
    subst e1
    cases ru
    obtain ⟨its, rv, p, hz⟩ := I1.tuple hs
    refine wpAny_pyIter_tuple (show s1.heap.IsTuple a its.toArray from p) ?_
    refine ⟨s1.heap.objs.size, [s1.heap.objs.size], _, _, H1, rfl, I1.kept (t' := s1.toks) fun b o e => Heap.get?_push_of_some _ e, turn_tuple a _, ⟨_, Heap.get?_push_size _ rfl, rfl, rfl⟩, fun b hb => ?_, E _ _ M1 H1 _ k1 R1 h1 it⟩
    have e : b = s1.heap.objs.size := by simpa using hb
    subst e
    exact I1.fpOk (Nat.le_refl _) (I1.hok.fresh (Nat.le_refl _))
  · rename_i a
    have r1 : v = .ref a := r1
    subst r1
    split at h1
    · rename_i xs hm
      obtain ⟨vs, hv, rl⟩ := R1 a _ hm
      exact lst a vs _ _ ru (SqL.of hv) h1 (itd_mem hm)
    · exact h1.elim
  · exact h1.elim

end
def GI (mg : Str → Option Value) (x : Str) (i : Int) : Prop := ∃ t, mg x = some (.int i t)
structure GK (K : PySem.W.Frag) (mg : Str → Option Value) (x : Str) (d : PyData) : Prop where
  ex : ∃ v u, mg x = some u ∧ RelV v u ∧ KRep K v d
theorem de_gi {X : Cx} {pos : Pos} {x : Str} {i : Int} (hg : Gl X x) (h : GI X.mg x i) (hd : (x == ("__debug__" : Str)) = false := by decide) : DE X (.Name x pos) (wC (.d (.int i))) := by
  obtain ⟨t, h⟩ := h
  exact de_globI hg h hd
theorem de_gk {X : Cx} {pos : Pos} {x : Str} {d : PyData} (hg : Gl X x) (h : GK X.K X.mg x d) (hd : (x == ("__debug__" : Str)) = false := by decide) : DE X (.Name x pos) (wC (.d d)) := by
  obtain ⟨v, u, h1, h2, h3⟩ := h.ex
  exact de_globK hg h1 h2 h3 hd
def PenMO (n : Nat) (mo : MO) : Prop := ∃ (ns : List Int) (at' cur : Int), mo = .lst [.d (.list (ns.map .int)), .d (.int at'), .d (.int cur)] ∧ 0 ≤ at' ∧ at' ≤ n
theorem PenMO.mono {n m : Nat} {mo : MO} (h : PenMO n mo) (hm : n ≤ m) : PenMO m mo := by
  obtain ⟨ns, a, c, e, h0, h1⟩ := h
  exact ⟨ns, a, c, e, h0, by omega⟩
theorem liftF_freeze {K : PySem.W.Frag} {sp sp' : SpD} (h : ∀ ds M Q, sp' ds M Q → sp ds M fun d M' => Q d M' ∨ ∃ p xs M0, d = .r p ∧ M0 p = none ∧ M' = mupd M0 p (.lst (xs.map .d)) ∧ Q (.d (.list xs)) M0) :
    ∀ vs H Q E, liftF K sp' vs H Q E → liftF K sp vs H Q E := by
  intro vs H Q E ⟨ds, M, Qd, r, R, hsp, En⟩
  refine ⟨ds, M, _, r, R, h ds M Qd hsp, fun d M' v H' k' R' r' q => ?_⟩
  rcases q with q | ⟨p, xs, M0, rfl, h0, rfl, q⟩
  · exact En d M' v H' k' R' r' q
  · have r' : v = .ref p := r'
    subst r'
    obtain ⟨us, hu, ru⟩ := R' p _ mupd_same
    exact En (.d (.list xs)) M0 _ H' (Keep.unM h0 k') (RelM.unM h0 R') (RepP.lst hu h0 (RepL.toA (RepL.drop (mupd_none h0) ru))) q
theorem DFn.imp {P : Program} {w : World} {K : PySem.W.Frag} {mg : Str → Option Value} {base : Heap} {k : Nat} {f : Addr} {fd : FuncData} {ps : List Str} {sp sp' : SpD} (F : DFn P w K mg base k f fd ps sp) (h : ∀ vs H Q E, liftF K sp' vs H Q E → liftF K sp vs H Q E) : DFn P w K mg base k f fd ps sp' :=
  ⟨fun vs H Q E q => F.len vs H Q E (h _ _ _ _ q), fun A outer s H args us vs Q E hr hg he hb hv hs => F.run A outer s H args us vs Q E hr hg he hb hv (h _ _ _ _ hs)⟩
theorem DFn.weak {P : Program} {w : World} {K : PySem.W.Frag} {mg : Str → Option Value} {base : Heap} {k : Nat} {f : Addr} {fd : FuncData} {ps : List Str} {sp sp' : SpD} (F : DFn P w K mg base k f fd ps sp) (h : ∀ ds M Q, sp' ds M Q → sp ds M Q) : DFn P w K mg base k f fd ps sp' :=
  F.imp fun vs H Q E ⟨ds, M, Qd, r, R, hsp, En⟩ => ⟨ds, M, Qd, r, R, h ds M Qd hsp, En⟩
theorem Callee.weak {P : Program} {w : World} {K : PySem.W.Frag} {mg : Str → Option Value} {base : Heap} {x : Str} {k j : Nat} {ps : List Str} {sp sp' : SpD} (c : Callee P w K mg base x k ps sp) (hj : k ≤ j) (h : ∀ ds M Q, sp' ds M Q → sp ds M Q) : Callee P w K mg base x j ps sp' := by
  obtain ⟨f, fd, a, b, c, F⟩ := c.ex
  have F' := DFn.weak F h
  exact ⟨f, fd, a, b, c, ⟨F'.len, fun A outer s H args us vs Q E hr => F'.run A outer s H args us vs Q E (hr.mono hj)⟩⟩
theorem liftF_pen {K : PySem.W.Frag} {sp sp' : SpD} (h : ∀ ds M Q, sp' ds M Q → sp ds M fun d M' => ∃ c p ns M0, d = .r p ∧ c ≠ p ∧ M0 c = none ∧ M0 p = none ∧ M' = mupd (mupd M0 c (.lst ((ns : List Int).map fun i => .d (.int i)))) p (.lst [.r c, .d (.int 0), .d (.int 0)]) ∧
      Q (.r p) (mupd M0 p (.lst [.d (.list (ns.map .int)), .d (.int 0), .d (.int 0)]))) :
    ∀ vs H Q E, liftF K sp' vs H Q E → liftF K sp vs H Q E := by
  intro vs H Q E ⟨ds, M, Qd, r, R, hsp, En⟩
  refine ⟨ds, M, _, r, R, h ds M Qd hsp, fun d M' v H' k' R' r' q => ?_⟩
  obtain ⟨c, p, ns, M0, rfl, hcp, hc, hp, rfl, q⟩ := q
  have r' : v = .ref p := r'
  subst r'
  have sub : ∀ a, mupd (mupd M0 c (.lst (ns.map fun i => .d (.int i)))) p (.lst [.r c, .d (.int 0), .d (.int 0)]) a = none → mupd M0 p (.lst [.d (.list (ns.map .int)), .d (.int 0), .d (.int 0)]) a = none := fun a ha => by
    by_cases e : a = p
    · subst e; rw [mupd_same] at ha; cases ha
    · rw [mupd_ne e] at ha ⊢
      exact mupd_none hc a ha
  obtain ⟨us, hu, ru⟩ := R' p _ mupd_same
  obtain ⟨ws, hw, rw'⟩ := R' c (.lst (ns.map fun i => .d (.int i))) (by rw [mupd_ne hcp, mupd_same])
  refine En (.r p) _ _ H' (fun a n u e => ⟨(k' a n u e).1, sub a (k' a n u e).2⟩) ?_ rfl q
  intro a m e
  by_cases ep : a = p
  · subst ep
    rw [mupd_same] at e
    cases e
    cases ru with
    | cons r1 r2 =>
      cases r2 with
      | cons r2 r3 =>
        cases r3 with
        | cons r3 r4 =>
          cases r4
          have r1 : _ = V.ref c := r1
          subst r1
          refine ⟨_, hu, .cons ?_ (.cons (RepP.drop sub _ _ r2) (.cons (RepP.drop sub _ _ r3) .nil))⟩
          refine RepP.lst hw (by rw [mupd_ne hcp]; exact hc) ?_
          refine RepL.toA (RepL.drop sub ?_)
          rw [List.map_map]
          exact rw'
  · rw [mupd_ne ep] at e
    have hac : a ≠ c := by rintro rfl; rw [hc] at e; cases e
    have z := R' a m (by rw [mupd_ne ep, mupd_ne hac]; exact e)
    cases m with
    | lst xs => obtain ⟨vs', a1, a2⟩ := z; exact ⟨vs', a1, RepL.drop sub a2⟩
    | tup xs => obtain ⟨vs', a1, a2⟩ := z; exact ⟨vs', a1, RepL.drop sub a2⟩
theorem room64 {A : Around} {k : Nat} (hr : Room k A) : A.units + 64 < cLine := hr.units
theorem room65 {A : Around} {k : Nat} (hr : Room k A) : A.units + 65 < cLine := by have := hr.un; omega
theorem room0 {A : Around} {k : Nat} (hr : Room k A) : A.units < cLine := hr.units0
theorem compD_map {g : WG} {te : WE} {δ0 : SD} {D : Addr} {fin : List DV → Mem → Prop} (f : DV → PyData) : ∀ (items acc : List DV) (M : Mem), M D = none → acc.length + items.length ≤ sizeLine →
    (∀ x ∈ items, ∀ (M' : Mem) (Q : DQ), Q (.d (f x)) M' → g x δ0 fun δ1 => te δ1 M' Q) → fin (acc ++ items.map fun x => .d (f x)) M → compD (fun _ => True) g wYes te δ0 D fin items acc M
  | [], acc, M, _, _, _, h => ⟨trivial, by simpa using h⟩
  | x :: xs, acc, M, hD, hz, hb, h => by
    refine ⟨trivial, ?_⟩
    show g x δ0 fun δ1 => te δ1 (mupd M D (.lst acc)) fun y M3 => M3 D = some (.lst acc) ∧ acc.length < sizeLine ∧ compD _ g wYes te δ0 D fin xs (acc ++ [y]) (mdel M3 D)
    refine hb x (by simp) (mupd M D (.lst acc)) (fun y M3 => M3 D = some (.lst acc) ∧ acc.length < sizeLine ∧ compD (fun _ => True) g wYes te δ0 D fin xs (acc ++ [y]) (mdel M3 D)) ⟨mupd_same, by simp at hz; omega, ?_⟩
    rw [mdel_mupd hD]
    exact compD_map f xs (acc ++ [.d (f x)]) M hD (by simp at hz ⊢; omega) (fun y hy => hb y (by simp [hy])) (by simpa using h)
theorem allD_mapF {α : Type} (f : α → PyData) (xs : List α) : allD (xs.map fun x => DV.d (f x)) = some (xs.map f) := by
  have := allD_map (xs.map f)
  rw [List.map_map] at this
  exact this
theorem compD_filter {g : WG} {tt : WT} {te : WE} {δ0 : SD} {D : Addr} {fin : List DV → Mem → Prop} (p : DV → Bool) (f : DV → PyData) : ∀ (items acc : List DV) (M : Mem), M D = none → acc.length + items.length ≤ sizeLine →
    (∀ x ∈ items, ∀ (M' : Mem) (Q : Bool → SD → Mem → Prop), (∀ δ1, (∀ Q' : DQ, p x = true → Q' (.d (f x)) M' → te δ1 M' Q') → Q (p x) δ1 M') → g x δ0 fun δ1 => tt δ1 M' fun b M2 => Q b δ1 M2) →
    fin (acc ++ (items.filter p).map fun x => .d (f x)) M → compD (fun _ => True) g tt te δ0 D fin items acc M
  | [], acc, M, _, _, _, h => ⟨trivial, by simpa using h⟩
  | x :: xs, acc, M, hD, hz, hb, h => by
    refine ⟨trivial, ?_⟩
    refine hb x (by simp) (mupd M D (.lst acc)) (fun b δ1 M2 => if b = true then te δ1 M2 fun y M3 => M3 D = some (.lst acc) ∧ acc.length < sizeLine ∧ compD (fun _ => True) g tt te δ0 D fin xs (acc ++ [y]) (mdel M3 D)
      else M2 D = some (.lst acc) ∧ compD (fun _ => True) g tt te δ0 D fin xs acc (mdel M2 D)) fun δ1 he => ?_
    by_cases hp : p x = true
    · rw [if_pos hp]
      refine he _ hp ⟨mupd_same, by simp at hz; omega, ?_⟩
      rw [mdel_mupd hD]
      refine compD_filter p f xs (acc ++ [.d (f x)]) M hD (by simp at hz ⊢; omega) (fun y hy => hb y (by simp [hy])) ?_
      rw [List.filter_cons_of_pos hp] at h
      simpa using h
    · rw [if_neg hp]
      refine ⟨mupd_same, ?_⟩
      rw [mdel_mupd hD]
      refine compD_filter p f xs acc M hD (by simp at hz; omega) (fun y hy => hb y (by simp [hy])) ?_
      rw [List.filter_cons_of_neg hp] at h
      exact h
end DL
namespace DL
open PySem PySem.Spec L2 RZ
open PyProof.Rows hiding St

theorem ixN_lit (m n : Nat) : ixN m (no_index (@OfNat.ofNat Int n instOfNat)) = if n < m then some n else none := by
  show ixN m ((n : Nat) : Int) = _
  unfold ixN
  rw [if_pos (by omega)]
  by_cases h : n < m
  · rw [if_pos (by omega), if_pos h]; simp
  · rw [if_neg (by omega), if_neg h]
theorem atI_lit {α : Type} (xs : List α) (n : Nat) : L2.atI xs (no_index (@OfNat.ofNat Int n instOfNat)) = xs[n]? := by
  unfold L2.atI
  rw [ixN_lit]
  by_cases h : n < xs.length
  · rw [if_pos h]; rfl
  · rw [if_neg h, List.getElem?_eq_none (by omega)]; rfl
theorem ixN_nn {n : Nat} {i : Int} (h0 : 0 ≤ i) (h1 : i < n) : ixN n i = some i.toNat := by
  unfold ixN
  rw [if_pos h0, if_pos h1]
theorem atI_nn {α : Type} {xs : List α} {i : Int} (h0 : 0 ≤ i) (h1 : i < xs.length) : L2.atI xs i = xs[i.toNat]? := by
  unfold L2.atI
  rw [ixN_nn h0 h1]
  rfl
theorem atI_some {α : Type} {xs : List α} {i : Int} (h0 : 0 ≤ i) (h1 : i < xs.length) : ∃ x, L2.atI xs i = some x ∧ x ∈ xs := by
  rw [atI_nn h0 h1]
  have h : i.toNat < xs.length := by omega
  exact ⟨xs[i.toNat], by simp [h], List.getElem_mem h⟩
theorem atI_map {α β : Type} (f : α → β) (xs : List α) (i : Int) : L2.atI (xs.map f) i = (L2.atI xs i).map f := by
  unfold L2.atI
  rw [List.length_map]
  cases ixN xs.length i with
  | none => rfl
  | some j => show (xs.map f)[j]? = (xs[j]?).map f; rw [List.getElem?_map]
theorem sIx_lit (n d k : Nat) : HT.sIx n d (some (no_index (@OfNat.ofNat Int k instOfNat))) = min k n := HT.sIx_nat n d k
theorem cutD_ll {α : Type} (xs : List α) (a b : Nat) : cutD xs (some (no_index (@OfNat.ofNat Int a instOfNat))) (some (no_index (@OfNat.ofNat Int b instOfNat))) = (xs.drop a).take (b - a) := by
  unfold cutD
  rw [sIx_lit, sIx_lit]
  by_cases h : a ≤ xs.length
  · have e : min a xs.length = a := Nat.min_eq_left h
    rw [e]
    by_cases h2 : b ≤ xs.length
    · have e2 : min b xs.length = b := Nat.min_eq_left h2
      rw [e2]
    · have e2 : min b xs.length = xs.length := Nat.min_eq_right (by omega)
      rw [e2, List.take_of_length_le (by simp), List.take_of_length_le (by simp; omega)]
  · have e : min a xs.length = xs.length := Nat.min_eq_right (by omega)
    rw [e, List.drop_length, List.drop_of_length_le (by omega)]
    simp
theorem cutD_l {α : Type} (xs : List α) (a : Nat) : cutD xs (some (no_index (@OfNat.ofNat Int a instOfNat))) none = xs.drop a := by
  unfold cutD
  rw [sIx_lit, HT.sIx_none]
  by_cases h : a ≤ xs.length
  · have e : min a xs.length = a := Nat.min_eq_left h
    rw [e, List.take_of_length_le (by simp)]
  · have e : min a xs.length = xs.length := Nat.min_eq_right (by omega)
    rw [e, List.drop_length, List.drop_of_length_le (by omega)]
    simp
theorem cutD_u {α : Type} (xs : List α) (b : Nat) : cutD xs none (some (no_index (@OfNat.ofNat Int b instOfNat))) = xs.take b := by
  unfold cutD
  rw [sIx_lit, HT.sIx_none]
  by_cases h : b ≤ xs.length
  · have e : min b xs.length = b := Nat.min_eq_left h
    rw [e]; simp
  · have e : min b xs.length = xs.length := Nat.min_eq_right (by omega)
    rw [e, List.take_of_length_le (by simp), List.take_of_length_le (by omega)]
    simp
theorem cutD_nn {α : Type} (xs : List α) (a b : Nat) : cutD xs (some (a : Int)) (some (b : Int)) = (xs.drop a).take (b - a) := cutD_ll xs a b
theorem cutD_n {α : Type} (xs : List α) (a : Nat) : cutD xs (some (a : Int)) none = xs.drop a := cutD_l xs a
theorem cutD_un {α : Type} (xs : List α) (b : Nat) : cutD xs none (some (b : Int)) = xs.take b := cutD_u xs b
theorem loopD_ind {ok : Mem → Prop} {g : WG} {tb : WS} {E : DEnds} (Inv : List DV → SD → Mem → Prop) (hok : ∀ l δ M, Inv l δ M → ok M) (hnil : ∀ δ M, Inv [] δ M → E.nx δ M)
    (hcons : ∀ x l δ M, Inv (x :: l) δ M → ∀ N : SD → Mem → Prop, (∀ δ' M', Inv l δ' M' → N δ' M') → g x δ fun δ1 => tb { E with nx := N, ct := N, bk := E.nx } δ1 M) : ∀ (items : List DV) (δ : SD) (M : Mem), Inv items δ M → loopD ok g tb E items δ M
  | [], δ, M, h => ⟨hok _ _ _ h, hnil δ M h⟩
  | x :: l, δ, M, h => ⟨hok _ _ _ h, hcons x l δ M h _ fun δ' M' h' => loopD_ind Inv hok hnil hcons l δ' M' h'⟩
theorem list_len {n : Nat} (h : n ≤ 1000000) : n ≤ sizeLine := Nat.le_trans h (by decide)
theorem list_lt {n : Nat} (h : n ≤ 1000000) : n < sizeLine := Nat.lt_of_le_of_lt h (by decide)
theorem primes_at (l : List PyData) (m : Nat) (h : ∀ n < m, (match l[n]? with | some (.int p) => decide (0 < p ∧ p < 2147483648) | _ => false) = true) (hl : l.length = m) {i : Int} (h0 : 0 ≤ i) (h1 : i < m) : ∃ p : Int, L2.atI l i = some (.int p) ∧ 0 < p ∧ p < 2147483648 := by
  rw [atI_nn h0 (by omega)]
  have := h i.toNat (by omega)
  split at this
  · rename_i p e
    have q := of_decide_eq_true this
    exact ⟨p, e, q.1, q.2⟩
  · cases this
end DL
namespace DL
open PySem PySem.Spec L2 RZ
open PyProof.Rows hiding St

theorem ge_bool_int {prog : Program} {w : World} {A : Around} {E Q : Value → Shared → Prop} {s : Shared} (b : Bool) (a : Int) (t : Tok) (h : Q (.bool (decide (a ≤ b2i b))) s) : wpAny (model prog w) A (compareOp .LtE (.int a t) (.bool b)) Q E s :=
  SeqAt.rc_sub_first_or (op := .LtE) (typeIs_int s a t) rfl (by decide) F.sub_bool_int (F.slot_bool_ge : Slot "bool" (cmpInfo .LtE).2.2 _)
    (call_gives F.slot_bool_ge rfl F.entry_int_ge (F.args_int_ge_2 _ _) (show Gives (Builtin.«int.__ge__» ⟨[.bool b, .int a t], []⟩) (.val (Value.bool (decide (a ≤ b2i b)))) from .of_wp fun M A E s Q h => by obtain ⟨hp, g, d, tk, os⟩ := s; wp_walk; exact ⟨_, rfl, h⟩) ⟨nofun, h⟩) (.inl rfl)
theorem lt_bool_int {prog : Program} {w : World} {A : Around} {E Q : Value → Shared → Prop} {s : Shared} (b : Bool) (a : Int) (t : Tok) (h : Q (.bool (decide (b2i b < a))) s) : wpAny (model prog w) A (compareOp .Lt (.bool b) (.int a t)) Q E s :=
  SeqAt.rc_left_or (op := .Lt) rfl (typeIs_int s a t) (by decide) F.sub_int_bool F.slot_bool_lt
    (call_gives F.slot_bool_lt rfl F.entry_int_lt (F.args_int_lt_2 _ _) (show Gives (Builtin.«int.__lt__» ⟨[.bool b, .int a t], []⟩) (.val (Value.bool (decide (b2i b < a)))) from .of_wp fun M A E s Q h => by obtain ⟨hp, g, d, tk, os⟩ := s; wp_walk; exact ⟨_, rfl, h⟩) ⟨nofun, h⟩) (.inl rfl)
def asI : PyData → Option Int
  | .int i => some i
  | .bool b => some (b2i b)
  | _ => none
def bOp (left : Bool) (C : Int → Int → Prop) (g : Int → Int → PyData) : DV → DV → Mem → DQ → Prop
  | .d (.int i), .d (.int j), M, Q => C i j ∧ Q (.d (g i j)) M
  | .d (.bool i), .d (.int j), M, Q => left = true ∧ C (b2i i) j ∧ Q (.d (g (b2i i) j)) M
  | .d (.int i), .d (.bool j), M, Q => left = false ∧ C i (b2i j) ∧ Q (.d (g i (b2i j))) M
  | _, _, M, Q => False
section
variable {X : Cx}
theorem od_boolL {f : Value → Value → Sem Value} {C : Int → Int → Prop} {g : Int → Int → V} {gd : Int → Int → PyData} (h : OpR X f (rI C g)) (hg : ∀ i j H M, RepP X.K H M (g i j) (gd i j))
    (hb : ∀ {pins : List (Addr × Obj)} {σ : St} {s : Shared} {H : Hp} {Q : VK} (i : Bool) (j : Int) (t : Tok), Inv X pins σ H s → C (b2i i) j → Q (g (b2i i) j) H → wpAny (model X.prog X.w) X.A (f (.bool i) (.int j t)) (EP X pins σ Q) X.xe s) : OpD X f (bOp true C gd) := by
  intro pins s σ H x y v u Q I rv ru ⟨dx, dy, M, Qd, R, rx, ry, q, E⟩
  unfold bOp at q
  split at q
  · exact h pins s σ H x y v u Q I rv ru ⟨_, _, RepP.int_inv rx, RepP.int_inv ry, q.1, E (.d _) _ _ _ (Keep.refl _ _) R (hg _ _ _ _) q.2⟩
  · cases RepP.bl_inv rx
    cases RepP.int_inv ry
    cases rv
    obtain ⟨t, rfl⟩ := ru
    exact hb _ _ _ I q.2.1 (E (.d _) _ _ _ (Keep.refl _ _) R (hg _ _ _ _) q.2.2)
  · cases q.1
  · exact q.elim
theorem od_addB : OpD X (binaryOp .Add) (bOp true (fun _ _ => True) fun i j => .int (i + j)) :=
  od_boolL (g := fun i j => .int (i + j)) (opR_imp op_add fun x y H Q ⟨i, j, a, b, _, q⟩ => ⟨i, j, a, b, q⟩) (fun _ _ _ _ => .int _) fun {pins σ s H Q} i j t I _ q => IntBool.add_bool_int ⟨.int _, H, I.tok _, ⟨_, rfl⟩, q⟩
theorem od_subB : OpD X (binaryOp .Sub) (bOp true (fun _ _ => True) fun i j => .int (i - j)) :=
  od_boolL (g := fun i j => .int (i - j)) (opR_imp op_sub fun x y H Q ⟨i, j, a, b, _, q⟩ => ⟨i, j, a, b, q⟩) (fun _ _ _ _ => .int _) fun {pins σ s H Q} i j t I _ q => IntBool.sub_bool_int ⟨.int _, H, I.tok _, ⟨_, rfl⟩, q⟩
theorem od_mulB : OpD X (binaryOp .Mult) (bOp true CMul fun i j => .int (i * j)) :=
  od_boolL (g := fun i j => .int (i * j)) op_mul (fun _ _ _ _ => .int _) fun {pins σ s H Q} i j t I _ q => IntBool.mul_bool_int ⟨.int _, H, I.tok _, ⟨_, rfl⟩, q⟩
theorem od_ltB : OpD X (compareOp .Lt) (bOp true (fun _ _ => True) fun i j => .bool (decide (i < j))) :=
  od_boolL (g := fun i j => .bl (decide (i < j))) (opR_imp op_lt fun x y H Q ⟨i, j, a, b, _, q⟩ => ⟨i, j, a, b, q⟩) (fun _ _ _ _ => .bl _) fun {pins σ s H Q} i j t I _ q => lt_bool_int i j t ⟨.bl _, H, I, rfl, q⟩
theorem od_leB : OpD X (compareOp .LtE) (bOp false (fun _ _ => True) fun i j => .bool (decide (i ≤ j))) := by
  intro pins s σ H x y v u Q I rv ru ⟨dx, dy, M, Qd, R, rx, ry, q, E⟩
  unfold bOp at q
  split at q
  · exact op_le pins s σ H x y v u Q I rv ru ⟨_, _, RepP.int_inv rx, RepP.int_inv ry, E (.d _) _ _ _ (Keep.refl _ _) R (.bl _) q.2⟩
  · cases q.1
  · cases RepP.int_inv rx
    cases RepP.bl_inv ry
    obtain ⟨t, rfl⟩ := rv
    cases ru
    exact ge_bool_int _ _ _ ⟨.bl _, H, I, rfl, E (.d _) _ _ _ (Keep.refl _ _) R (.bl _) q.2.2⟩
  · exact q.elim

def cmpD (f : PyData → PyData → Bool) : DV → DV → Mem → DQ → Prop
  | .d a, .d b, M, Q => PySem.W.alike a b = true ∧ a ≠ .none ∧ a.depth ≤ 60 ∧ Q (.d (.bool (f a b))) M
  | _, _, M, Q => False
theorem od_cmp {op : CmpOp} {f : PyData → PyData → Bool} (hu : X.A.units + 64 < cLine)
    (h : ∀ {prog : Program} {w : World} {A : Around} {E : Value → Shared → Prop} {s : Shared} {a b : Value} {da db : PyData} {as bs : List Addr} {Q : Value → Shared → Prop}, Reads s.heap a da as → Reads s.heap b db bs → PySem.W.alike da db = true → da ≠ .none → A.units + min da.depth db.depth < cLine → Q (.bool (f da db)) s → wpAny (model prog w) A (compareOp op a b) Q E s) :
    OpD X (compareOp op) (cmpD f) := by
  intro pins s σ H x y v u Q I rv ru ⟨dx, dy, M, Qd, R, rx, ry, q, E⟩
  unfold cmpD at q
  split at q
  · obtain ⟨as, h1⟩ := RepP.reads I _ x v rx rv
    obtain ⟨bs, h2⟩ := RepP.reads I _ y u ry ru
    rename_i a b
    refine h h1 h2 q.1 q.2.1 ?_ ⟨.bl _, H, I, rfl, E (.d _) _ _ _ (Keep.refl _ _) R (.bl _) q.2.2.2⟩
    have : min a.depth b.depth ≤ a.depth := Nat.min_le_left _ _
    have := q.2.2.1
    omega
  · exact q.elim
theorem od_ltA (hu : X.A.units + 64 < cLine) : OpD X (compareOp .Lt) (cmpD fun a b => PySem.W.dataLt a b) := od_cmp hu PySem.W.lt_data
theorem od_gtA (hu : X.A.units + 64 < cLine) : OpD X (compareOp .Gt) (cmpD fun a b => PySem.W.dataLt b a) := od_cmp hu PySem.W.gt_data
theorem od_leA (hu : X.A.units + 64 < cLine) : OpD X (compareOp .LtE) (cmpD fun a b => !PySem.W.dataLt b a) := od_cmp hu PySem.W.le_data
theorem od_geA (hu : X.A.units + 64 < cLine) : OpD X (compareOp .GtE) (cmpD fun a b => !PySem.W.dataLt a b) := od_cmp hu PySem.W.ge_data

def sortedL (ds : List PyData) : List PyData := ds.mergeSort (PySem.W.dataLe false fun d => d)
def SortOk (ds : List PyData) : Prop := PySem.W.AllAlike ds ∧ PySem.W.Sortable ds ∧ ∀ d ∈ ds, d.depth ≤ 60
def sortD : List DV → Mem → DQ → Prop
  | [.d (.list xs)], M, Q => SortOk xs ∧ Q (.d (.list (sortedL xs))) M
  | _, M, Q => False
def sortM : List DV → Mem → DQ → Prop
  | [.d (.list xs)], M, Q => SortOk xs ∧ ∀ p, M p = none → Q (.r p) (mupd M p (.lst ((sortedL xs).map .d)))
  | _, M, Q => False
theorem each_reads {pins : List (Addr × Obj)} {σ : St} {H : Hp} {M : Mem} {s : Shared} (I : Inv X pins σ H s) {h' : Heap} (hk : ∀ b o, s.heap.get? b = some o → h'.get? b = some o) : ∀ (ds : List PyData) (vs : List V) (us : List Value), RepA X.K H M vs ds → Vals vs us → PySem.W.EachIs (fun v d => ∃ as, Reads h' v d as) us ds
  | [], _, _, h, r => by cases h; cases r; exact .nil
  | d :: ds, _, _, h, r => by
    cases h with
    | cons h1 h2 =>
      cases r with
      | cons r1 r2 =>
        obtain ⟨as, q⟩ := RepP.reads I d _ _ h1 r1
        exact .cons ⟨as, PyProof.Rows.Reads.keeps hk q⟩ (each_reads I hk ds _ _ h2 r2)
theorem each_rep {K : PySem.W.Frag} {H : Hp} {M : Mem} : ∀ (ds : List PyData) (vs : List V) (us : List Value), RepA K H M vs ds → Vals vs us → PySem.W.EachIs (fun u d => ∃ v, RelV v u ∧ RepP K H M v d) us ds
  | [], _, _, h, r => by cases h; cases r; exact .nil
  | d :: ds, _, _, h, r => by
    cases h with
    | cons h1 h2 =>
      cases r with
      | cons r1 r2 => exact .cons ⟨_, r1, h1⟩ (each_rep ds _ _ h2 r2)
theorem each_back {K : PySem.W.Frag} {H : Hp} {M : Mem} : ∀ {us : List Value} {ds : List PyData}, PySem.W.EachIs (fun u d => ∃ v, RelV v u ∧ RepP K H M v d) us ds → ∃ vs, Vals vs us ∧ RepA K H M vs ds
  | _, _, .nil => ⟨[], .nil, .nil⟩
  | _, _, .cons ⟨v, a, b⟩ t => by
    obtain ⟨vs, p, q⟩ := each_back t
    exact ⟨v :: vs, .cons a p, .cons b q⟩
theorem sorted_run (hu : X.A.units + 64 < cLine) {pins : List (Addr × Obj)} {σ : St} {H : Hp} {M : Mem} {s : Shared} {Q : VK} {a : Addr} {xs : List V} {ds : List PyData} (I : Inv X pins σ H s) (hs : SqL X.K H a xs) (ra : RepA X.K H M xs ds) (ok : SortOk ds)
    (q : ∀ p vs, H p = none → RepA X.K H M vs (sortedL ds) → Q (.ref p) (upd H p (.lst vs))) : wpAny (model X.prog X.w) X.A (call (.builtin "sorted") [.ref a]) (EP X pins σ Q) X.xe s := by
  obtain ⟨its, rv, hl, hz⟩ := I.list hs
  have hz' : its.length ≤ sizeLine := by rw [← rv.length]; exact hz
  have er := each_reads I (h' := PySem.W.sortingHeap (PySem.W.copyHeap s.heap its) (s.heap.objs.size + 1) its) (fun b o e => PySem.W.sorting_copy_old e) ds xs its ra rv
  refine PySem.W.sorted_vals hl.isList (PySem.W.SortsAt.data (s := { s with heap := _ }) er ok.1 ok.2.1 fun d hd => ?_) hz' ?_
  · have := ok.2.2 d hd
    show X.A.units + 1 + 1 + d.depth < cLine
    omega
  · have eo := PySem.W.keyedOut_each (rev := false) (bs := ds) (k := fun d => d) (out := PySem.W.sortVals (PySem.W.dataKind (PySem.W.sortingHeap (PySem.W.copyHeap s.heap its) (s.heap.objs.size + 1) its) ds) false its its) ⟨_, its, by rw [List.map_id']; exact ok.1, by rw [List.map_id'], by rw [List.map_id']; exact er⟩ (each_rep ds xs its ra rv)
    obtain ⟨vs, v1, v2⟩ := each_back eo
    obtain ⟨ep, he'⟩ := PyProof.Rows.sortedAll_at s.heap its (PySem.W.sortVals (PySem.W.dataKind (PySem.W.sortingHeap (PySem.W.copyHeap s.heap its) (s.heap.objs.size + 1) its) ds) false its its).toArray
    have hlen : vs.length ≤ sizeLine := by
      rw [v2.length, List.length_mergeSort, ← ra.length]
      exact hz
    exact ⟨.ref _, upd H (s.heap.objs.size + 1) (.lst vs), I.laid (t' := s.toks) (fun _ _ => PyProof.Rows.sortedAll_old) (Nat.le_succ _) ⟨hlen, _, ep, v1, he'⟩, rfl, q _ vs (I.hok.fresh (Nat.le_succ _)) v2⟩
theorem cd_sorted (hu : X.A.units + 64 < cLine) : CallD X (.builtin "sorted") sortD := by
  intro pins s σ H xs us Q I rs ⟨ds, M, Qd, R, rx, h, E⟩
  unfold sortD at h
  split at h
  · obtain ⟨v, rfl, rv⟩ := one_inv rx
    obtain ⟨a, vs, e1, s1, _, ra⟩ := RepP.lst_inv rv
    subst e1
    rw [Vals.ref1 rs]
    exact sorted_run hu I (SqL.of s1) ra h.1 fun p ws hp hw => E.lst R hw hp h.2
  · exact h.elim
theorem cd_sortedM (hu : X.A.units + 64 < cLine) : CallD X (.builtin "sorted") sortM := by
  intro pins s σ H xs us Q I rs ⟨ds, M, Qd, R, rx, h, E⟩
  unfold sortM at h
  split at h
  · obtain ⟨v, rfl, rv⟩ := one_inv rx
    obtain ⟨a, vs, e1, s1, _, ra⟩ := RepP.lst_inv rv
    subst e1
    rw [Vals.ref1 rs]
    exact sorted_run hu I (SqL.of s1) ra h.1 fun p ws hp hw => E.lstM R hw.toL hp (h.2 p (R.no hp))
  · exact h.elim
end
end DL
namespace HT
open PySem PySem.Spec L2
open PyProof.Rows hiding St
section
variable {prog : Program} {w : World} {A : Around} {E : Value → Shared → Prop} {s : Shared}
theorem adjust_rev (n : Nat) : Builtin.Slice.sliceAdjust none none (-1) (n : Int) = ((n : Int) - 1, -1) := by
  unfold Builtin.Slice.sliceAdjust
  have h1 : ((-1 : Int) < 0) := by omega
  simp only [h1, if_true]
theorem places_rev (n : Nat) : Builtin.Slice.slicePlaces ((n : Int) - 1) (-1) (-1) = n := by
  unfold Builtin.Slice.slicePlaces
  have h1 : ¬ ((-1 : Int) > 0) := by omega
  simp only [h1, if_false]
  have e : (- -1 : Int) = 1 := by decide
  rw [e, Int.ediv_one]
  split <;> omega
theorem filterMap_eq {α β : Type} {f g : α → Option β} : ∀ {l : List α}, (∀ x ∈ l, f x = g x) → l.filterMap f = l.filterMap g
  | [], _ => rfl
  | x :: l, h => by
    rw [List.filterMap_cons, List.filterMap_cons, h x (by simp), filterMap_eq fun y hy => h y (by simp [hy])]
theorem pick_rev (xs : Array Value) : ((List.range xs.size).filterMap fun (m : Nat) => xs[(((xs.size : Int) - 1) + (m : Int) * (-1)).toNat]?).toArray = xs.toList.reverse.toArray := by
  have e : ∀ m ∈ List.range xs.size, xs[(((xs.size : Int) - 1) + (m : Int) * (-1)).toNat]? = xs[xs.size - 1 - m]? := by
    intro m hm
    have := List.mem_range.mp hm
    congr 1
    omega
  rw [filterMap_eq e]
  have := PySem.W.krv_range xs.size
  have e2 : (List.range xs.size).filterMap (fun m => xs[xs.size - 1 - m]?) = ((List.range xs.size).map (fun k => xs.size - 1 - k)).filterMap (xs[·]?) := by
    rw [List.filterMap_map]; rfl
  rw [e2, this, List.filterMap_reverse, PySem.W.krv_all]
theorem sliceApplied_rev {sl : Addr} {vk : Value} {n : Nat} {Q : Int × Int × Nat → Shared → Prop} (hs : s.heap.IsSliceOf sl .none .none vk) (pk : IsPart vk (some (-1)))
    (h : Q ((n : Int) - 1, -1, n) s) : wpAny (model prog w) A (Builtin.Slice.sliceApplied (.ref sl) (pure (n : Int))) Q E s := by
  obtain ⟨os, hos, hcs, hds⟩ := id hs
  unfold Builtin.Slice.sliceApplied Builtin.Slice.sliceFields
  refine wpAny_bind (wpAny_bind (wpAny_field hos hds (x := .none) rfl (wpAny_bind (wpAny_field hos hds (x := .none) rfl (wpAny_bind (wpAny_field hos hds (x := vk) rfl (wpAny_pure ?_)))))))
  refine wpAny_bind (slicePart_ pk ?_)
  show wpAny _ _ (if ((-1 : Int) == 0) = true then _ else _) _ _ s
  rw [if_neg (by decide)]
  refine wpAny_bind (slicePart_none (wpAny_bind (slicePart_none (wpAny_bind (wpAny_pure ?_)))))
  show wpAny _ _ (match Builtin.Slice.sliceAdjust none none (-1) (n : Int) with | (lo, hi) => pure (lo, (-1 : Int), Builtin.Slice.slicePlaces lo hi (-1))) _ _ s
  rw [adjust_rev n]
  show wpAny _ _ (pure (((n : Int) - 1), (-1 : Int), Builtin.Slice.slicePlaces ((n : Int) - 1) (-1) (-1))) _ _ s
  rw [places_rev]
  exact wpAny_pure h
theorem getItem_tuple_rev {t sl : Addr} {items : Array Value} {vk : Value} {Q : Value → Shared → Prop} (ht : IsTup s.heap t items) (hs : s.heap.IsSliceOf sl .none .none vk) (pk : IsPart vk (some (-1)))
    (h : Q (.ref s.heap.objs.size) { s with heap := s.heap.push { cls := .type "tuple", data := .seq items.toList.reverse.toArray } })
    (hsz : items.size ≤ sizeLine) : wpAny (model prog w) A (getItem (.ref t) (.ref sl)) Q E s := by
  have htake : sizeOk (.seq items.toList.reverse.toArray) := by
    show (items.toList.reverse.toArray).size ≤ sizeLine
    simpa using hsz
  obtain ⟨os, hos, hcs, hds⟩ := id hs
  have hTs : s.TypeIs (.ref sl) "slice" := ⟨os, hos, hcs⟩
  unfold getItem
  try with_reducible refine wpAny_holding ?_
  first | refine wpAny_bind (wpAny_pure ?_) | skip
  refine wpAny_bind (wpAny_sequenceKey ht.typeIs (by decide) ?_)
  refine wpAny_bind (wpAny_callSpecial?_slot (name := Str.ofString "__getitem__") ht.typeIs PyProof.Rows.slot_tuple_getitem
    (wpAny_call_entry PyProof.Rows.slot_tuple_getitem ht.typeIs entry_tuple_getitem ?_ (args_tuple_getitem _ _)))
  show wpAny _ _ (Builtin.Tuple.tupleItemsOf (.ref t) >>= _) _ _ s
  refine wpAny_bind (tupleItemsOf_ ht ?_)
  refine wpAny_bind (wpAny_typeOf hTs ?_)
  rw [if_pos (by decide)]
  refine wpAny_bind (sliceApplied_rev hs pk ?_)
  have hno : ¬ ((((items.size : Int) - 1) == 0 && (-1 : Int) == 1 && items.size == items.size) = true) := by
    intro q
    rw [Bool.and_eq_true, Bool.and_eq_true] at q
    exact absurd q.1.2 (by decide)
  show wpAny _ _ (if ((((items.size : Int) - 1) == 0 && (-1 : Int) == 1 && items.size == items.size) = true) then _ else _) _ _ s
  rw [if_neg hno, pick_rev]
  first
    | exact wpAny_bind (m := Builtin.Tuple.tupleExact _) (wpAny_newObj_type (wpAny_pure ⟨_, rfl, wpAny_pure h⟩) htake)
    | exact wpAny_bind (m := Builtin.Tuple.tupleExact _) (wpAny_newObj_type (wpAny_bind (wpAny_pure (wpAny_pure ⟨_, rfl, wpAny_pure h⟩))) htake)
    | exact wpAny_bind (wpAny_bind (m := Builtin.Tuple.tupleExact _) (wpAny_newObj_type (wpAny_pure (wpAny_pure ⟨_, rfl, wpAny_pure h⟩)) htake))
    | exact wpAny_bind (wpAny_bind (m := Builtin.Tuple.tupleExact _) (wpAny_newObj_type (wpAny_pure ⟨_, rfl, wpAny_pure h⟩) htake))
end
end HT
namespace L2
open PySem PySem.Spec
open PyProof.Rows hiding St
def tRevA (K : PySem.W.Frag) (te : TE) : TE := fun σ H Q => te σ H fun x H1 => ∃ a xs, x = .ref a ∧ ((SqL K H1 a xs ∧ ∀ p, H1 p = none → Q (.ref p) (upd H1 p (.lst xs.reverse))) ∨ (SqT K H1 a xs ∧ ∀ p, H1 p = none → Q (.ref p) (upd H1 p (.tup xs.reverse))))
theorem pe_revA {X : Cx} {e : Expr} {te : TE} {k : Nat} {p1 p2 p3 pos : Pos} (he : PE X e te) : PE X (.Subscript e (.Slice none none (some (.UnaryOp .USub (.Constant (.int 1) k p1) p2)) p3) pos) (tRevA X.K te) := by
  refine ⟨fun pins s σ H Q I h => ?_⟩
  refine Subscript_ (thn (he.run pins s σ H _ I h) fun v s1 ⟨x, H1, I1, r1, q1⟩ => ?_)
  obtain ⟨a, xs, ex, q1⟩ := q1
  subst ex
  cases r1
  have hst : PO X (some (.UnaryOp .USub (.Constant (.int 1) k p1) p2)) (tPart (tUn (rU fun i => .int (-i)) (tC (.int 1)))) := po_some (pe_un un_neg pe_int)
  refine wpAny_Slice (thn (po_none.run pins s1 σ H1 (fun o H2 => o = none ∧ H2 = H1) I1 ⟨rfl, rfl⟩) fun vl s2 ⟨l, H2, I2, pl, el, e2⟩ => ?_)
  subst el e2
  refine thn (po_none.run pins s2 σ H2 (fun o H3 => o = none ∧ H3 = H2) I2 ⟨rfl, rfl⟩) fun vu s3 ⟨u, H3, I3, pu, eu, e3⟩ => ?_
  subst eu e3
  refine thn (hst.run pins s3 σ H3 (fun o H4 => o = some (-1) ∧ H4 = H3) I3 ⟨1, rfl, -1, rfl, rfl, rfl⟩) fun vs s4 ⟨o, H4, I4, ps, eo, e4⟩ => ?_
  subst eo e4
  have I5 : Inv X pins σ H4 { s4 with heap := s4.heap.push { cls := .type "slice", data := .fields #[vl, vu, vs] } } := I4.kept (t' := s4.toks) fun b ob q => Heap.get?_push_of_some _ q
  show wpAny (model X.prog X.w) X.A (subscriptTail e (.Slice none none (some (.UnaryOp .USub (.Constant (.int 1) k p1) p2)) p3) (.ref a) (.ref s4.heap.objs.size)) (EP X pins σ Q) X.xe { s4 with heap := s4.heap.push { cls := .type "slice", data := .fields #[vl, vu, vs] } }
  rcases q1 with ⟨hx, q⟩ | ⟨hx, q⟩
  · obtain ⟨its, r, ht, hz⟩ := I5.list hx
    have hlen := r.length
    refine tail_any (ops := [.ref a, .ref s4.heap.objs.size]) ht.isList.typeIs (PySem.slot_list_getitem.lookup) ?_ (by with_unfolding_all rfl)
    refine wpAny_getItem_list_slice ht.isList (Heap.IsSliceOf.new _ vl vu vs) pl pu ps (by decide) ?_ (by rw [List.size_toArray]; omega)
    rw [PySem.W.krv_pick]
    refine ⟨.ref _, _, I5.laid (t' := s4.toks) (o := .lst xs.reverse) (fun b ob q => Heap.get?_push_of_some _ q) (Nat.le_refl _) ?_, rfl, q _ (I5.hok.fresh (Nat.le_refl _))⟩
    exact ⟨by rw [List.length_reverse]; exact hz, _, 0, r.reverse, Heap.get?_push_size _ rfl⟩
  · obtain ⟨its, r, ht, hz⟩ := I5.tuple hx
    have hlen := r.length
    cases pl
    cases pu
    refine tail_any (ops := [.ref a, .ref s4.heap.objs.size]) ht.typeIs (PyProof.Rows.slot_tuple_getitem.lookup) ?_ (by with_unfolding_all rfl)
    refine HT.getItem_tuple_rev ht (Heap.IsSliceOf.new _ _ _ vs) ps ?_ (by rw [List.size_toArray]; omega)
    refine ⟨.ref _, _, I5.laid (t' := s4.toks) (o := .tup xs.reverse) (fun b ob q => Heap.get?_push_of_some _ q) (Nat.le_refl _) ?_, rfl, q _ (I5.hok.fresh (Nat.le_refl _))⟩
    exact ⟨by rw [List.length_reverse]; exact hz, _, r.reverse, IsTup.new _ _⟩
end L2
namespace DL
open PySem PySem.Spec L2 RZ
open PyProof.Rows hiding St
def revD : DV → Mem → DQ → Prop
  | .d (.tuple xs), M, Q => Q (.d (.tuple xs.reverse)) M
  | .d (.list xs), M, Q => Q (.d (.list xs.reverse)) M
  | .r a, M, Q => optD (lstMD M a) fun xs => Q (.d (.list xs.reverse)) M
  | _, _, _ => False
def wRev (we : WE) : WE := fun δ M Q => we δ M fun x M1 => revD x M1 Q
theorem RepA.reverse {K : PySem.W.Frag} {H : Hp} {M : Mem} : ∀ {vs : List V} {ds : List PyData}, RepA K H M vs ds → RepA K H M vs.reverse ds.reverse
  | _, [], h => by cases h; exact .nil
  | _, d :: ds, h => by
    cases h with
    | cons h1 h2 =>
      rw [List.reverse_cons, List.reverse_cons]
      exact h2.reverse.append (.cons h1 .nil)
section
variable {X : Cx} {e : Expr} {we : WE} {pos : Pos}
theorem de_rev {k : Nat} {p1 p2 p3 : Pos} (he : DE X e we) : DE X (.Subscript e (.Slice none none (some (.UnaryOp .USub (.Constant (.int 1) k p1) p2)) p3) pos) (wRev we) :=
  pe_imp (pe_revA he) fun σ H Q ⟨δ, M, Qd, S, R, h, E⟩ => ⟨δ, M, _, S, R, h, fun d M1 v H1 k1 R1 r1 h1 => by
    have E1 := E.step k1
    unfold revD at h1
    split at h1
    · obtain ⟨a, vs, e1, s1, ra⟩ := RepP.tup_inv r1
      exact ⟨a, vs, e1, .inr ⟨s1, fun p hp => E1.tup R1 ra.reverse hp h1⟩⟩
    · obtain ⟨a, vs, e1, s1, _, ra⟩ := RepP.lst_inv r1
      exact ⟨a, vs, e1, .inl ⟨SqL.of s1, fun p hp => E1.lst R1 ra.reverse hp h1⟩⟩
    · rename_i a
      obtain ⟨xs, e, h1⟩ := optD_inv h1
      obtain ⟨vs, hv, ra⟩ := lstMD_inv R1 e
      exact ⟨a, vs, r1, .inl ⟨SqL.of hv, fun p hp => E1.lst R1 ra.reverse hp h1⟩⟩
    · exact h1.elim⟩
def wPar3 (i j l : Nat) (wa : WA) : WS := fun E δ M => wa δ M fun ds M1 => match ds with
  | [d, e, f] => E.nx (((δ.set i (some d)).set j (some e)).set l (some f)) M1
  | _ => False
theorem three_inv {K : PySem.W.Frag} {H : Hp} {M : Mem} {xs : List V} {d e f : DV} (r : RepL K H M xs [d, e, f]) : ∃ v u w, xs = [v, u, w] ∧ Rep K H M v d ∧ Rep K H M u e ∧ Rep K H M w f := by
  cases r with
  | cons a b =>
    obtain ⟨u, w, rfl, c, g⟩ := two_inv b
    exact ⟨_, _, _, rfl, a, c, g⟩
theorem ds_par3 {i j l : Nat} {x y z : Str} {a b c : Expr} {wa : WA} {px py pz pt pos : Pos} {kt k2 pt2} (hc : X.calm = true) (hN : X.N.Nodup) (hi : X.N[i]? = some x) (hj : X.N[j]? = some y) (hl : X.N[l]? = some z) (hij : i ≠ j) (hil : i ≠ l) (hjl : j ≠ l)
    (hx : X.env.scope.names.lookup x = some .local) (hy : X.env.scope.names.lookup y = some .local) (hz : X.env.scope.names.lookup z = some .local) (ha : DA X [a, b, c] wa)
    (hw : swappedStores [.Tuple [.Name x px, .Name y py, .Name z pz] kt pt] (.Tuple [a, b, c] k2 pt2) X.env = pure (some [x, y, z]))
    (hs : swapsWithSole [.Tuple [.Name x px, .Name y py, .Name z pz] kt pt] (.Tuple [a, b, c] k2 pt2) pos.line X.env = pure false := by rfl) :
    DS X (.Assign [.Tuple [.Name x px, .Name y py, .Name z pz] kt pt] (.Tuple [a, b, c] k2 pt2) pos) (wPar3 i j l wa) :=
  ps_imp (ps_par3 hc hN hi hj hl hij hil hjl hx hy hz ha hw hs) fun D σ H ⟨δ, M, E, S, R, h, e1, e2, e3, e4⟩ => ⟨δ, M, _, S, R, h, fun ds M1 vs H1 k1 R1 r1 h1 => by
    split at h1
    · obtain ⟨v, u, w, rfl, rv, ru, rw'⟩ := three_inv r1
      exact ⟨v, u, w, rfl, e1 _ M1 _ H1 k1 R1 ((((S.keep k1).set rv i).set ru j).set rw' l) h1⟩
    · exact h1.elim⟩
def wFrz (i : Nat) (t : WS) : WS := fun E δ M => match δ[i]? with
  | some (some (.r p)) => optD (lstMD M p) fun ys => t E (δ.set i (some (.d (.list ys)))) (mdel M p)
  | _ => t E δ M
theorem mdel_sub {M : Mem} {p : Addr} : ∀ a, M a = none → mdel M p a = none := fun a h => by
  by_cases e : a = p
  · subst e; exact mdel_same
  · rw [mdel_ne e]; exact h
theorem RelM.del {K : PySem.W.Frag} {H : Hp} {M : Mem} {p : Addr} (R : RelM K H M) : RelM K H (mdel M p) := fun a m e => by
  have hne : a ≠ p := by rintro rfl; rw [mdel_same] at e; cases e
  rw [mdel_ne hne] at e
  have q := R a m e
  cases m with
  | lst xs => obtain ⟨vs, a1, a2⟩ := q; exact ⟨vs, a1, RepL.drop mdel_sub a2⟩
  | tup xs => obtain ⟨vs, a1, a2⟩ := q; exact ⟨vs, a1, RepL.drop mdel_sub a2⟩
theorem RepS.drop {K : PySem.W.Frag} {H : Hp} {M M' : Mem} {σ : St} {δ : SD} (S : RepS K H M σ δ) (h : ∀ a, M a = none → M' a = none) : RepS K H M' σ δ := ⟨S.len, fun i d e => let ⟨v, a, b⟩ := S.at_ i d e; ⟨v, a, b.drop h⟩⟩
theorem RepS.setD {K : PySem.W.Frag} {H : Hp} {M : Mem} {σ : St} {δ : SD} (S : RepS K H M σ δ) {i : Nat} {v : V} {d : DV} (hv : σ[i]? = some (some v)) (r : Rep K H M v d) : RepS K H M σ (δ.set i (some d)) := by
  have := S.set r i
  have e : σ.set i (some v) = σ := by
    apply List.ext_getElem?
    intro j
    by_cases z : i = j
    · subst z
      rw [hv]
      exact List.getElem?_set_self (by rcases Nat.lt_or_ge i σ.length with h | h; exact h; rw [List.getElem?_eq_none h] at hv; cases hv)
    · rw [List.getElem?_set_ne z]
  rw [e] at this
  exact this
theorem dss_frz (i : Nat) {sts : List Stmt} {t : WS} (h : DSs X sts t) : DSs X sts (wFrz i t) :=
  pss_imp h fun D σ H ⟨δ, M, E, S, R, h, e1, e2, e3, e4⟩ => by
    unfold wFrz at h
    split at h
    · rename_i p hp
      obtain ⟨ys, e, h⟩ := optD_inv h
      obtain ⟨vs, hv, ra⟩ := lstMD_inv R e
      have kd : Keep H M H (mdel M p) := Keep.sub mdel_sub
      obtain ⟨v, hs, rv⟩ := S.at_ i _ hp
      have rv : v = .ref p := rv
      subst rv
      refine ⟨_, _, E, (S.drop mdel_sub).setD (d := .d (.list ys)) hs (show RepP X.K H (mdel M p) (.ref p) (.list ys) from .lst hv mdel_same (RepA.dropM mdel_sub _ _ ra)), R.del, h, ?_, ?_, ?_, ?_⟩
      · exact fun δ' M' σ' H' k => e1 δ' M' σ' H' (kd.trans k)
      · exact fun d M' v H' k => e2 d M' v H' (kd.trans k)
      · exact fun δ' M' σ' H' k => e3 δ' M' σ' H' (kd.trans k)
      · exact fun δ' M' σ' H' k => e4 δ' M' σ' H' (kd.trans k)
    · exact ⟨δ, M, E, S, R, h, e1, e2, e3, e4⟩
end
def isScalar : PyData → Bool
  | .none | .bool _ | .int _ | .str _ => true
  | _ => false
def viewD (M : Mem) : DV → Option PyData
  | .d x => some x
  | .r a => (lstMD M a).map .list
  | .s _ => none
def viewL (M : Mem) : List DV → Option (List PyData)
  | [] => some []
  | x :: xs => (viewD M x).bind fun y => (viewL M xs).map (y :: ·)
def mem0 : Mem := fun _ => none
theorem view_rep {K : PySem.W.Frag} {H : Hp} {M : Mem} {v : V} {x : DV} {d : PyData} (R : RelM K H M) (r : Rep K H M v x) (h : viewD M x = some d) : RepP K H mem0 v d := by
  cases x with
  | d y => cases h; exact RepP.drop (fun _ _ => rfl) _ _ r
  | r a =>
    obtain ⟨ys, e, rfl⟩ := Option.map_eq_some_iff.mp h
    obtain ⟨vs, hv, ra⟩ := lstMD_inv R e
    have r : v = .ref a := r
    subst r
    exact .lst hv rfl (RepA.dropM (fun _ _ => rfl) _ _ ra)
  | s ns => cases h
theorem view_repL {K : PySem.W.Frag} {H : Hp} {M : Mem} (R : RelM K H M) : ∀ {vs : List V} {xs : List DV} {ds : List PyData}, RepL K H M vs xs → viewL M xs = some ds → RepL K H mem0 vs (ds.map .d)
  | _, [], _, r, h => by cases h; cases r; exact .nil
  | _, x :: xs, _, r, h => by
    cases r with
    | cons r1 r2 =>
      obtain ⟨y, e1, h⟩ := Option.bind_eq_some_iff.mp h
      obtain ⟨ys, e2, rfl⟩ := Option.map_eq_some_iff.mp h
      exact .cons (view_rep R r1 e1) (view_repL R r2 e2)
def spPure (R : List PyData → PyData → Prop) : SpD := fun ds M Q => ∃ xs r, ds = xs.map .d ∧ R xs r ∧ Q (.d r) M
def spView (R : List PyData → PyData → Prop) : SpD := fun ds M Q => ∃ xs r, viewL M ds = some xs ∧ R xs r ∧ isScalar r = true ∧ Q (.d r) M
theorem scalar_rep {K : PySem.W.Frag} {H : Hp} {M M' : Mem} {v : V} {d : PyData} (h : isScalar d = true) (r : RepP K H M v d) : RepP K H M' v d := by
  cases d with
  | none => cases r; exact .non
  | bool b => cases r; exact .bl b
  | int i => cases r; exact .int i
  | str x => cases r; exact .str x
  | list _ => cases h
  | tuple _ => cases h
  | dict _ => cases h
theorem liftF_view {K : PySem.W.Frag} {R : List PyData → PyData → Prop} : ∀ vs H Q E, liftF K (spView R) vs H Q E → liftF K (spPure R) vs H Q E := by
  intro vs H Q E ⟨ds, M, Qd, r, Rm, ⟨xs, y, hv, hR, hs, q⟩, En⟩
  refine ⟨xs.map .d, mem0, fun d M' => d = .d y ∧ M' = mem0, view_repL Rm r hv, (fun a m e => nomatch e), ⟨xs, y, rfl, hR, rfl, rfl⟩, fun d M' v H' k' R' r' q' => ?_⟩
  obtain ⟨rfl, rfl⟩ := q'
  have kk : Keep H M H' M := fun a n o e => ⟨(k' a rfl o e).1, n⟩
  refine En (.d y) M v H' kk (fun a m e => ?_) (scalar_rep hs r') q
  have z := Rm a m e
  refine z.keep kk ?_
  cases m with
  | lst ws => obtain ⟨us, hu, _⟩ := z; rw [hu]; exact (k' a rfl _ hu).1
  | tup ws => obtain ⟨us, hu, _⟩ := z; rw [hu]; exact (k' a rfl _ hu).1
theorem Callee.imp {P : Program} {w : World} {K : PySem.W.Frag} {mg : Str → Option Value} {base : Heap} {x : Str} {k : Nat} {ps : List Str} {sp sp' : SpD} (c : Callee P w K mg base x k ps sp) (h : ∀ vs H Q E, liftF K sp' vs H Q E → liftF K sp vs H Q E) : Callee P w K mg base x k ps sp' := by
  obtain ⟨f, fd, a, b, d, F⟩ := c.ex
  exact ⟨f, fd, a, b, d, F.imp h⟩
theorem Callee.view {P : Program} {w : World} {K : PySem.W.Frag} {mg : Str → Option Value} {base : Heap} {x : Str} {k : Nat} {ps : List Str} {R : List PyData → PyData → Prop} (c : Callee P w K mg base x k ps (spPure R)) : Callee P w K mg base x k ps (spView R) := c.imp liftF_view
end DL
namespace DL
open PySem PySem.Spec L2 RZ
open PyProof.Rows hiding St

mutual
def wt : PyData → Nat
  | .none => 4
  | .bool _ => 5
  | .int i => i.natAbs.log2 + 4
  | .str x => (reprText x).length
  | .list xs => wtAll xs + 3
  | .tuple xs => wtAll xs + 3
  | .dict _ => 2
def wtAll : List PyData → Nat
  | [] => 0
  | x :: xs => wt x + 2 + wtAll xs
end
mutual
def fits (B : Nat) : PyData → Bool
  | .none => true
  | .bool _ => true
  | .int i => decide (i.natAbs.log2 < B)
  | .str x => PyData.strOk x
  | .list xs => fitsAll B xs
  | .tuple xs => fitsAll B xs
  | .dict kvs => kvs.isEmpty
def fitsAll (B : Nat) : List PyData → Bool
  | [] => true
  | x :: xs => fits B x && fitsAll B xs
end
structure Nice (W D B : Nat) (x : PyData) : Prop where
  w : wt x ≤ W
  d : x.depth ≤ D
  f : fits B x = true
structure NiceL (W D B : Nat) (xs : List PyData) : Prop where
  w : wtAll xs ≤ W
  d : PyData.depthAll xs ≤ D
  f : fitsAll B xs = true
theorem wtAll_append : ∀ xs ys : List PyData, wtAll (xs ++ ys) = wtAll xs + wtAll ys
  | [], ys => by simp [wtAll]
  | x :: xs, ys => by
    simp only [List.cons_append, wtAll, wtAll_append xs ys]
    omega
theorem fitsAll_iff {B : Nat} : ∀ {xs : List PyData}, fitsAll B xs = true ↔ ∀ x ∈ xs, fits B x = true
  | [] => by simp [fitsAll]
  | x :: xs => by simp [fitsAll, fitsAll_iff (xs := xs)]
theorem depthAll_iff {D : Nat} : ∀ {xs : List PyData}, PyData.depthAll xs ≤ D ↔ ∀ x ∈ xs, x.depth ≤ D
  | [] => by simp [PyData.depthAll]
  | x :: xs => by
    simp only [PyData.depthAll, List.mem_cons, forall_eq_or_imp]
    rw [← depthAll_iff (xs := xs)]
    omega
theorem wtAll_mem : ∀ {xs : List PyData} {x : PyData}, x ∈ xs → wt x + 2 ≤ wtAll xs
  | y :: ys, x, h => by
    simp only [wtAll]
    rcases List.mem_cons.mp h with rfl | h
    · omega
    · have := wtAll_mem h
      omega
theorem NiceL.mem {W D B : Nat} {xs : List PyData} (h : NiceL W D B xs) {x : PyData} (hx : x ∈ xs) : Nice W D B x :=
  ⟨by have := wtAll_mem hx; have := h.w; omega, depthAll_iff.mp h.d x hx, fitsAll_iff.mp h.f x hx⟩
theorem fits_mono {B C : Nat} (h : B ≤ C) : ∀ x : PyData, fits B x = true → fits C x = true := by
  intro x
  refine PyData.rec (motive_1 := fun x => fits B x = true → fits C x = true) (motive_2 := fun xs => fitsAll B xs = true → fitsAll C xs = true) (motive_3 := fun _ => True) (motive_4 := fun _ => True) ?_ ?_ ?_ ?_ ?_ ?_ ?_ ?_ ?_ ?_ ?_ ?_ x
  · intro _; rfl
  · intro b _; rfl
  · intro i q; simp only [fits, decide_eq_true_eq] at q ⊢; omega
  · intro s q; exact q
  · intro xs ih q; simp only [fits] at q ⊢; exact ih q
  · intro xs ih q; simp only [fits] at q ⊢; exact ih q
  · intro k _ q; exact q
  · intro _; rfl
  · intro y ys h1 h2 q
    simp only [fitsAll, Bool.and_eq_true] at q ⊢
    exact ⟨h1 q.1, h2 q.2⟩
  · trivial
  · intro _ _ _ _; trivial
  · intro _ _ _ _; trivial
theorem fitsAll_mono {B C : Nat} (h : B ≤ C) {xs : List PyData} (q : fitsAll B xs = true) : fitsAll C xs = true := fitsAll_iff.mpr fun x hx => fits_mono h x (fitsAll_iff.mp q x hx)
theorem Nice.mono {W D B W' D' B' : Nat} {x : PyData} (h : Nice W D B x) (hw : W ≤ W' := by omega) (hd : D ≤ D' := by omega) (hb : B ≤ B' := by omega) : Nice W' D' B' x := ⟨Nat.le_trans h.w hw, Nat.le_trans h.d hd, fits_mono hb x h.f⟩
theorem NiceL.mono {W D B W' D' B' : Nat} {x : List PyData} (h : NiceL W D B x) (hw : W ≤ W' := by omega) (hd : D ≤ D' := by omega) (hb : B ≤ B' := by omega) : NiceL W' D' B' x := ⟨Nat.le_trans h.w hw, Nat.le_trans h.d hd, fitsAll_mono hb h.f⟩
theorem nice_list {W D B : Nat} {xs : List PyData} (h : NiceL W D B xs) : Nice (W + 3) (D + 1) B (.list xs) := ⟨by simp only [wt]; have := h.w; omega, by simp only [PyData.depth]; have := h.d; omega, by simp only [fits]; exact h.f⟩
theorem nice_tuple {W D B : Nat} {xs : List PyData} (h : NiceL W D B xs) : Nice (W + 3) (D + 1) B (.tuple xs) := ⟨by simp only [wt]; have := h.w; omega, by simp only [PyData.depth]; have := h.d; omega, by simp only [fits]; exact h.f⟩
theorem nice_list_inv {W D B : Nat} {xs : List PyData} (h : Nice W D B (.list xs)) : 3 ≤ W ∧ 1 ≤ D ∧ NiceL (W - 3) (D - 1) B xs := by
  have h1 := h.w
  have h2 := h.d
  have h3 := h.f
  simp only [wt, PyData.depth, fits] at h1 h2 h3
  exact ⟨by omega, by omega, by omega, by omega, h3⟩
theorem nice_tuple_inv {W D B : Nat} {xs : List PyData} (h : Nice W D B (.tuple xs)) : 3 ≤ W ∧ 1 ≤ D ∧ NiceL (W - 3) (D - 1) B xs := by
  have h1 := h.w
  have h2 := h.d
  have h3 := h.f
  simp only [wt, PyData.depth, fits] at h1 h2 h3
  exact ⟨by omega, by omega, by omega, by omega, h3⟩
theorem niceL_nil {W D B : Nat} : NiceL W D B [] := ⟨by simp [wtAll], by simp [PyData.depthAll], rfl⟩
theorem niceL_cons {W V D B : Nat} {x : PyData} {xs : List PyData} (h : Nice W D B x) (t : NiceL V D B xs) : NiceL (W + 2 + V) D B (x :: xs) :=
  ⟨by simp only [wtAll]; have := h.w; have := t.w; omega, by simp only [PyData.depthAll]; have := h.d; have := t.d; omega, by simp only [fitsAll]; rw [h.f, t.f]; rfl⟩
theorem niceL_append {W V D B : Nat} {xs ys : List PyData} (h : NiceL W D B xs) (t : NiceL V D B ys) : NiceL (W + V) D B (xs ++ ys) :=
  ⟨by rw [wtAll_append]; have := h.w; have := t.w; omega, depthAll_iff.mpr fun x hx => by
    rcases List.mem_append.mp hx with q | q
    · exact depthAll_iff.mp h.d x q
    · exact depthAll_iff.mp t.d x q, fitsAll_iff.mpr fun x hx => by
    rcases List.mem_append.mp hx with q | q
    · exact fitsAll_iff.mp h.f x q
    · exact fitsAll_iff.mp t.f x q⟩
theorem wtAll_sub {xs ys : List PyData} (h : xs.Sublist ys) : wtAll xs ≤ wtAll ys := by
  induction h with
  | slnil => exact Nat.le_refl _
  | cons a _ ih => simp only [wtAll]; omega
  | cons_cons a _ ih => simp only [wtAll]; omega
theorem NiceL.sub {W D B : Nat} {xs ys : List PyData} (h : NiceL W D B ys) (s : xs.Sublist ys) : NiceL W D B xs :=
  ⟨Nat.le_trans (wtAll_sub s) h.w, depthAll_iff.mpr fun x hx => depthAll_iff.mp h.d x (s.subset hx), fitsAll_iff.mpr fun x hx => fitsAll_iff.mp h.f x (s.subset hx)⟩
theorem wtAll_perm {xs ys : List PyData} (h : xs.Perm ys) : wtAll xs = wtAll ys := by
  induction h with
  | nil => rfl
  | cons a _ ih => simp only [wtAll, ih]
  | swap a b l => simp only [wtAll]; omega
  | trans _ _ h1 h2 => exact h1.trans h2
theorem NiceL.perm {W D B : Nat} {xs ys : List PyData} (h : NiceL W D B ys) (s : xs.Perm ys) : NiceL W D B xs :=
  ⟨by rw [wtAll_perm s]; exact h.w, depthAll_iff.mpr fun x hx => depthAll_iff.mp h.d x (s.mem_iff.mp hx), fitsAll_iff.mpr fun x hx => fitsAll_iff.mp h.f x (s.mem_iff.mp hx)⟩
theorem NiceL.rev {W D B : Nat} {xs : List PyData} (h : NiceL W D B xs) : NiceL W D B xs.reverse := h.perm (List.reverse_perm xs)
theorem NiceL.set {W V D B : Nat} {xs : List PyData} {x : PyData} (h : NiceL W D B xs) (t : Nice V D B x) (i : Nat) : NiceL (W + V + 2) D B (xs.set i x) := by
  have e : xs.set i x = xs ∨ xs.set i x = xs.take i ++ x :: xs.drop (i + 1) := by
    by_cases hi : i < xs.length
    · right; rw [List.set_eq_take_append_cons_drop, if_pos hi]
    · left; exact List.set_eq_of_length_le (by omega)
  rcases e with e | e
  · rw [e]; exact h.mono
  · rw [e]
    refine ⟨?_, ?_, ?_⟩
    · rw [wtAll_append]
      have h1 := wtAll_append (xs.take i) (xs.drop i)
      rw [List.take_append_drop] at h1
      have h2 := wtAll_sub (List.drop_sublist_drop_left xs (show i ≤ i + 1 by omega))
      have := h.w
      have := t.w
      simp only [wtAll]
      omega
    · refine depthAll_iff.mpr fun y hy => ?_
      rcases List.mem_append.mp hy with q | q
      · exact depthAll_iff.mp h.d y (List.mem_of_mem_take q)
      · rcases List.mem_cons.mp q with rfl | q
        · exact t.d
        · exact depthAll_iff.mp h.d y (List.mem_of_mem_drop q)
    · refine fitsAll_iff.mpr fun y hy => ?_
      rcases List.mem_append.mp hy with q | q
      · exact fitsAll_iff.mp h.f y (List.mem_of_mem_take q)
      · rcases List.mem_cons.mp q with rfl | q
        · exact t.f
        · exact fitsAll_iff.mp h.f y (List.mem_of_mem_drop q)
theorem nice_int {B : Nat} {i : Int} (h : i.natAbs.log2 < B) (W D : Nat) (hw : B + 4 ≤ W := by omega) : Nice W D B (.int i) := ⟨by simp only [wt]; omega, Nat.zero_le _, by simp only [fits]; exact decide_eq_true h⟩
theorem nice_bool {W D B : Nat} {b : Bool} (hw : 5 ≤ W := by omega) : Nice W D B (.bool b) := ⟨by simp only [wt]; omega, Nat.zero_le _, rfl⟩
theorem nice_none {W D B : Nat} (hw : 4 ≤ W := by omega) : Nice W D B .none := ⟨by simp only [wt]; omega, Nat.zero_le _, rfl⟩
theorem nice_mk {W D B : Nat} {x : PyData} (h : (decide (wt x ≤ W) && decide (x.depth ≤ D) && fits B x) = true) : Nice W D B x := by
  simp only [Bool.and_eq_true, decide_eq_true_eq] at h
  exact ⟨h.1.1, h.1.2, h.2⟩

theorem join_le (ts : List Str) : (Str.join ", " ts).length ≤ piled ts := by
  cases ts with
  | nil => exact Nat.zero_le _
  | cons t r => have := join_length_add (t :: r) (by simp); omega
theorem textFrom_le : ∀ (ts : List Str) (k : Nat) (acc : Str), (textFrom k acc ts).length ≤ acc.length + piled ts
  | [], _, _ => by show _ ≤ _ + 0; exact Nat.le_refl _
  | t :: ts, k, acc => by
    have ih := textFrom_le ts (k + 1) (acc ++ (if k > 0 then ", " else "" : String) ++ t)
    show (textFrom (k + 1) _ ts).length ≤ _
    have e : (acc ++ (if k > 0 then ", " else "" : String) ++ t).length = acc.length + (if k > 0 then 2 else 0) + t.length := by
      rw [strLen_append, strLen_append]
      split <;> rfl
    have e2 : piled (t :: ts) = t.length + 2 + piled ts := by simp [piled]
    have e3 : (if k > 0 then 2 else 0 : Nat) ≤ 2 := by split <;> omega
    omega
mutual
theorem shown_le {B : Nat} : ∀ x : PyData, fits B x = true → x.shown.length ≤ wt x
  | .none, _ => by simp only [PyData.shown, wt]; decide
  | .bool b, _ => by cases b <;> simp only [PyData.shown, wt] <;> decide
  | .int i, _ => by
    simp only [PyData.shown, wt]
    have := int_text_length_le (a := i) (k := i.natAbs.log2 + 1) (by omega) (by omega)
    have e := PySem.ofString_length (toString i)
    show (Str.ofString (toString i)).length ≤ _
    omega
  | .str x, _ => by simp only [PyData.shown, wt]; exact Nat.le_refl _
  | .list xs, h => by
    simp only [PyData.shown, wt]
    have ih := shownAll_le xs (by simpa only [fits] using h)
    have e : (listText (PyData.shownAll xs)).length = (textFrom 0 "[" (PyData.shownAll xs)).length + 1 := by
      show (textFrom 0 "[" _ ++ "]").length = _
      rw [strLen_append]; rfl
    have := textFrom_le (PyData.shownAll xs) 0 "["
    have e2 : ("[" : Str).length = 1 := rfl
    omega
  | .tuple xs, h => by
    simp only [PyData.shown, wt]
    have ih := shownAll_le xs (by simpa only [fits] using h)
    have := join_le (PyData.shownAll xs)
    unfold tupleText
    rw [strLen_append, strLen_append]
    have e1 : ("(" : Str).length = 1 := rfl
    have e2 : (Str.ofString (if (PyData.shownAll xs).length == 1 then ",)" else ")")).length ≤ 2 := by split <;> decide
    have e3 : (Str.ofString (if (PyData.shownAll xs).length == 1 then ",)" else ")") : Str) = ((if (PyData.shownAll xs).length == 1 then ",)" else ")" : String) : Str) := rfl
    omega
  | .dict kvs, h => by
    have e : kvs = [] := by simpa [fits] using h
    subst e
    simp only [PyData.shown, wt, PyData.shownKv]
    decide
theorem shownAll_le {B : Nat} : ∀ xs : List PyData, fitsAll B xs = true → piled (PyData.shownAll xs) ≤ wtAll xs
  | [], _ => Nat.le_refl _
  | x :: xs, h => by
    simp only [fitsAll, Bool.and_eq_true] at h
    have h1 := shown_le x h.1
    have h2 := shownAll_le xs h.2
    have e2 : piled (PyData.shownAll (x :: xs)) = x.shown.length + 2 + piled (PyData.shownAll xs) := by simp [piled, PyData.shownAll]
    simp only [wtAll]
    omega
end
mutual
theorem showable_fits : ∀ x : PyData, fits 1920 x = true → x.showable = true
  | .none, _ => rfl
  | .bool _, _ => rfl
  | .int i, h => by simpa [fits, PyData.showable] using h
  | .str _, _ => rfl
  | .list xs, h => by simp only [PyData.showable]; exact showableAll_fits xs (by simpa only [fits] using h)
  | .tuple xs, h => by simp only [PyData.showable]; exact showableAll_fits xs (by simpa only [fits] using h)
  | .dict kvs, h => by
    have e : kvs = [] := by simpa [fits] using h
    subst e
    rfl
theorem showableAll_fits : ∀ xs : List PyData, fitsAll 1920 xs = true → PyData.showableAll xs = true
  | [], _ => rfl
  | x :: xs, h => by
    simp only [fitsAll, Bool.and_eq_true] at h
    simp only [PyData.showableAll, Bool.and_eq_true]
    exact ⟨showable_fits x h.1, showableAll_fits xs h.2⟩
end
theorem Nice.showy {W D B : Nat} {x : PyData} (h : Nice W D B x) (hw : W ≤ 1000000 := by omega) (hd : D ≤ 60 := by omega) (hb : B ≤ 1920 := by omega) : Showy x :=
  ⟨showable_fits x (fits_mono hb x h.f), Nat.le_trans h.d hd, Nat.le_trans (shown_le x h.f) (Nat.le_trans h.w (list_len hw))⟩
mutual
def noDict : PyData → Bool
  | .list xs => noDictAll xs
  | .tuple xs => noDictAll xs
  | .dict _ => false
  | _ => true
def noDictAll : List PyData → Bool
  | [] => true
  | x :: xs => noDict x && noDictAll xs
end
end DL
namespace DL
open PySem PySem.Spec L2 RZ
open PyProof.Rows hiding St

theorem eqOk_int {i j : Int} : eqOk (.int i) (.int j) = true := rfl
theorem eqOk_bool {i j : Bool} : eqOk (.bool i) (.bool j) = true := rfl
theorem eqOk_ib {i : Int} {j : Bool} : eqOk (.int i) (.bool j) = true := rfl
theorem eqOk_bi {i : Bool} {j : Int} : eqOk (.bool i) (.int j) = true := rfl
theorem eqOk_str {i j : Str} : eqOk (.str i) (.str j) = true := rfl
theorem eqv_int {i j : Int} : PyData.eqv (.int i) (.int j) = (i == j) := by simp [PyData.eqv]
theorem eqv_bool {i j : Bool} : PyData.eqv (.bool i) (.bool j) = (i == j) := by simp [PyData.eqv]
theorem eqv_str {i j : Str} : PyData.eqv (.str i) (.str j) = (i == j) := by simp [PyData.eqv]
theorem shaped_bool {b : Bool} : SeqAt.shaped (.bool b) = true := rfl
theorem shaped_int {b : Int} : SeqAt.shaped (.int b) = true := rfl
theorem shaped_none : SeqAt.shaped .none = true := rfl
theorem shaped_bools (bs : List Bool) : SeqAt.shaped (.list (bs.map .bool)) = true := by
  have h1 : ∀ bs : List Bool, PyData.canLayAll0 (bs.map .bool) = true := by
    intro bs
    induction bs with
    | nil => rfl
    | cons b bs ih => simp only [List.map_cons, PyData.canLayAll0, PyData.canLay0, ih]; rfl
  have h2 : ∀ bs : List Bool, PyData.depthAll (bs.map .bool) = 0 := by
    intro bs
    induction bs with
    | nil => rfl
    | cons b bs ih => simp only [List.map_cons, PyData.depthAll, PyData.depth, ih]; rfl
  unfold SeqAt.shaped
  simp only [PyData.canLay0, PyData.depth, h1, h2]
  rfl
theorem any_false (bs : List Bool) : ((bs.map PyData.bool).any fun y => PyData.eqv y (.bool false)) = !bs.all (fun b => b) := by
  induction bs with
  | nil => rfl
  | cons b bs ih =>
    simp only [List.map_cons, List.any_cons, List.all_cons, ih, eqv_bool]
    cases b <;> rfl
theorem shaped_of_fits {B W D : Nat} {x : PyData} (h : Nice W D B x) (hn : noDict x = true) (hd : D ≤ 64) : SeqAt.shaped x = true := by
  have key : ∀ x : PyData, fits B x = true → noDict x = true → PyData.canLay0 x = true := by
    intro x
    refine PyData.rec (motive_1 := fun x => fits B x = true → noDict x = true → PyData.canLay0 x = true) (motive_2 := fun xs => fitsAll B xs = true → noDictAll xs = true → PyData.canLayAll0 xs = true) (motive_3 := fun _ => True) (motive_4 := fun _ => True) ?_ ?_ ?_ ?_ ?_ ?_ ?_ ?_ ?_ ?_ ?_ ?_ x
    · intro _ _; rfl
    · intro b _ _; rfl
    · intro i _ _; rfl
    · intro s q _; simpa only [fits, PyData.canLay0] using q
    · intro xs ih q p; simp only [fits, noDict, PyData.canLay0] at q p ⊢; exact ih q p
    · intro xs ih q p; simp only [fits, noDict, PyData.canLay0] at q p ⊢; exact ih q p
    · intro k _ q p; cases p
    · intro _ _; rfl
    · intro y ys h1 h2 q p
      simp only [fitsAll, noDictAll, PyData.canLayAll0, Bool.and_eq_true] at q p ⊢
      exact ⟨h1 q.1 p.1, h2 q.2 p.2⟩
    · trivial
    · intro _ _ _ _; trivial
    · intro _ _ _ _; trivial
  unfold SeqAt.shaped
  rw [key x h.f hn, Bool.true_and]
  exact decide_eq_true (Nat.le_trans h.d hd)

theorem liftChain {K : PySem.W.Frag} {rd rd' : R2D} {wa wb wc : WE} {σ : St} {H : Hp} {Q : VK} (h : lift K (wChain rd rd' wa wb wc) σ H Q) : tChain (rD K rd) (rD K rd') (lift K wa) (lift K wb) (lift K wc) σ H Q := by
  obtain ⟨δ, M, Qd, S, R, h, E⟩ := h
  refine ⟨δ, M, _, S, R, h, fun d M1 v H1 k1 R1 r1 h1 => ?_⟩
  refine ⟨δ, M1, _, S.keep k1, R1, h1, fun e M2 u H2 k2 R2 r2 h2 => ?_⟩
  refine ⟨d, e, M2, _, R2, r1.keep k2, r2, h2, fun z M3 w3 H3 k3 R3 r3 h3 => ?_⟩
  split at h3
  · rename_i k
    refine ⟨k, RepP.bl_inv r3, ?_⟩
    by_cases hk : k = true
    · rw [if_pos hk] at h3 ⊢
      refine ⟨δ, M3, _, S.keep ((k1.trans k2).trans k3), R3, h3, fun f M4 w4 H4 k4 R4 r4 h4 => ?_⟩
      exact ⟨e, f, M4, _, R4, (r2.keep k3).keep k4, r4, h4, E.step (((k1.trans k2).trans k3).trans k4)⟩
    · rw [if_neg hk] at h3 ⊢
      exact E (.d _) _ _ _ ((k1.trans k2).trans k3) R3 (.bl _) h3
  · exact h3.elim
theorem dt_chain {X : Cx} {a b c : Expr} {wa wb wc : WE} {pos : Pos} {op op' : CmpOp} {rd rd' : R2D} (ho : OpD X (compareOp op) rd) (ho' : OpD X (compareOp op') rd') (ha : DE X a wa) (hb : DE X b wb) (hc : DE X c wc)
    (hm : lastMarks [op, op'] [b, c] = false := by with_unfolding_all rfl) : DT X (.Compare a [op, op'] [b, c] pos) (wB (wChain rd rd' wa wb wc)) :=
  pt_imp (pt_chain ho ho' ha hb hc hm) fun σ H Q q => by
    have q' := liftB q
    exact liftChain (Q := fun x H' => ∃ k, x = .bl k ∧ Q k H') q'
theorem mupd_comm {M : Mem} {a b : Addr} {o u : MO} (h : a ≠ b) : mupd (mupd M a o) b u = mupd (mupd M b u) a o := by
  funext c
  by_cases e1 : c = b
  · subst e1; rw [mupd_same, mupd_ne (Ne.symm h), mupd_same]
  · rw [mupd_ne e1]
    by_cases e2 : c = a
    · subst e2; rw [mupd_same, mupd_same]
    · rw [mupd_ne e2, mupd_ne e2, mupd_ne e1]
theorem ne_of_mem {M : Mem} {a b : Addr} {o : MO} (h : M a = some o) (n : M b = none) : b ≠ a := by rintro rfl; rw [h] at n; cases n
section
variable {ws : WI} {g : WG} {tt : WT} {te : WE} {vs : List Nat} {δ : SD} {M : Mem} {Q : DQ}
theorem lc_map (items : List DV) (f : DV → PyData) (hs : ∀ R : List DV → (Mem → Prop) → Mem → Prop, R items (fun _ => True) M → ws δ M R) (hz : items.length ≤ sizeLine)
    (hb : ∀ x ∈ items, ∀ M' : Mem, (∀ a o, M a = some o → M' a = some o) → ∀ Q' : DQ, Q' (.d (f x)) M' → g x (wipeD δ vs) fun δ1 => te δ1 M' Q') (hq : Q (.d (.list (items.map f))) M) : wLc finF ws g wYes te vs δ M Q := by
  unfold wLc
  refine hs _ fun D hD => ?_
  have key : ∀ (l acc : List DV), acc.length + l.length ≤ sizeLine → (∀ x ∈ l, x ∈ items) → finF Q D (acc ++ l.map fun x => .d (f x)) M → compD (fun _ => True) g wYes te (wipeD δ vs) D (finF Q D) l acc M := by
    intro l
    induction l with
    | nil => intro acc _ _ h; exact ⟨trivial, by simpa using h⟩
    | cons x xs ih =>
      intro acc hz hm h
      refine ⟨trivial, ?_⟩
      show g x (wipeD δ vs) fun δ1 => te δ1 (mupd M D (.lst acc)) fun y M3 => M3 D = some (.lst acc) ∧ acc.length < sizeLine ∧ compD _ g wYes te (wipeD δ vs) D (finF Q D) xs (acc ++ [y]) (mdel M3 D)
      refine hb x (hm x (by simp)) (mupd M D (.lst acc)) (fun a o e => ?_) (fun y M3 => M3 D = some (.lst acc) ∧ acc.length < sizeLine ∧ compD (fun _ => True) g wYes te (wipeD δ vs) D (finF Q D) xs (acc ++ [y]) (mdel M3 D)) ⟨mupd_same, by simp at hz; omega, ?_⟩
      · rw [mupd_ne]
        · exact e
        · rintro rfl; rw [hD] at e; cases e
      · rw [mdel_mupd hD]
        exact ih (acc ++ [.d (f x)]) (by simp at hz ⊢; omega) (fun y hy => hm y (by simp [hy])) (by simpa using h)
  refine key items [] (by simpa using hz) (fun _ h => h) ?_
  unfold finF
  rw [List.nil_append, allD_mapF]
  exact hq
theorem lc_bools (items : List DV) (f : DV → Bool) (hs : ∀ R : List DV → (Mem → Prop) → Mem → Prop, R items (fun _ => True) M → ws δ M R) (hz : items.length ≤ sizeLine)
    (hb : ∀ x ∈ items, ∀ M' : Mem, (∀ a o, M a = some o → M' a = some o) → ∀ Q' : DQ, Q' (.d (.bool (f x))) M' → g x (wipeD δ vs) fun δ1 => te δ1 M' Q') (hq : Q (.d (.list ((items.map f).map .bool))) M) : wLc finF ws g wYes te vs δ M Q :=
  lc_map items (fun x => .bool (f x)) hs hz hb (by rw [List.map_map] at hq; exact hq)
theorem lc_filter (items : List DV) (p : DV → Bool) (f : DV → PyData) (hs : ∀ R : List DV → (Mem → Prop) → Mem → Prop, R items (fun _ => True) M → ws δ M R) (hz : items.length ≤ sizeLine)
    (hb : ∀ x ∈ items, ∀ M' : Mem, (∀ a o, M a = some o → M' a = some o) → ∀ Q' : Bool → SD → Mem → Prop, (∀ δ1, (∀ Q2 : DQ, p x = true → Q2 (.d (f x)) M' → te δ1 M' Q2) → Q' (p x) δ1 M') → g x (wipeD δ vs) fun δ1 => tt δ1 M' fun b M2 => Q' b δ1 M2)
    (hq : Q (.d (.list ((items.filter p).map f))) M) : wLc finF ws g tt te vs δ M Q := by
  unfold wLc
  refine hs _ fun D hD => ?_
  have key : ∀ (l acc : List DV), acc.length + l.length ≤ sizeLine → (∀ x ∈ l, x ∈ items) → finF Q D (acc ++ (l.filter p).map fun x => .d (f x)) M → compD (fun _ => True) g tt te (wipeD δ vs) D (finF Q D) l acc M := by
    intro l
    induction l with
    | nil => intro acc _ _ h; exact ⟨trivial, by simpa using h⟩
    | cons x xs ih =>
      intro acc hz hm h
      refine ⟨trivial, ?_⟩
      refine hb x (hm x (by simp)) (mupd M D (.lst acc)) (fun a o e => ?_) (fun b δ1 M2 => if b = true then te δ1 M2 fun y M3 => M3 D = some (.lst acc) ∧ acc.length < sizeLine ∧ compD (fun _ => True) g tt te (wipeD δ vs) D (finF Q D) xs (acc ++ [y]) (mdel M3 D)
        else M2 D = some (.lst acc) ∧ compD (fun _ => True) g tt te (wipeD δ vs) D (finF Q D) xs acc (mdel M2 D)) fun δ1 he => ?_
      · rw [mupd_ne]
        · exact e
        · rintro rfl; rw [hD] at e; cases e
      · by_cases hp : p x = true
        · rw [if_pos hp]
          refine he _ hp ⟨mupd_same, by simp at hz; omega, ?_⟩
          rw [mdel_mupd hD]
          refine ih (acc ++ [.d (f x)]) (by simp at hz ⊢; omega) (fun y hy => hm y (by simp [hy])) ?_
          rw [List.filter_cons_of_pos hp] at h
          simpa using h
        · rw [if_neg hp]
          refine ⟨mupd_same, ?_⟩
          rw [mdel_mupd hD]
          refine ih acc (by simp at hz; omega) (fun y hy => hm y (by simp [hy])) ?_
          rw [List.filter_cons_of_neg hp] at h
          exact h
  refine key items [] (by simpa using hz) (fun _ h => h) ?_
  unfold finF
  rw [List.nil_append, allD_mapF]
  exact hq
theorem lc2_map {ws1 : WI} {g1 : WG} {vs1 : List Nat} (items : List DV) (sub : DV → List DV) (f : DV → DV → PyData) (hs : ∀ R : List DV → (Mem → Prop) → Mem → Prop, R items (fun _ => True) M → ws δ M R) (hz : (items.flatMap sub).length ≤ sizeLine)
    (hb : ∀ x ∈ items, ∀ K : SD → Prop, (∀ δ1, (∀ M' : Mem, (∀ a o, M a = some o → M' a = some o) → ∀ R : List DV → (Mem → Prop) → Mem → Prop, R (sub x) (fun _ => True) M' → ws1 δ1 M' R) →
      (∀ y ∈ sub x, ∀ M' : Mem, (∀ a o, M a = some o → M' a = some o) → ∀ Q' : DQ, Q' (.d (f x y)) M' → g1 y (wipeD δ1 vs1) fun δ2 => te δ2 M' Q') → K δ1) → g x (wipeD δ vs) K)
    (hq : Q (.d (.list (items.flatMap fun x => (sub x).map (f x)))) M) : wLc2 finF ws g wYes ws1 g1 wYes te vs vs1 δ M Q := by
  unfold wLc2
  refine hs _ fun D hD => ?_
  have fr : ∀ (acc : List DV) (a : Addr) (o : MO), M a = some o → mupd M D (.lst acc) a = some o := fun acc a o e => by
    rw [mupd_ne]
    · exact e
    · rintro rfl; rw [hD] at e; cases e
  have inner : ∀ (x : DV) (δ1 : SD) (fn : List DV → Mem → Prop) (l acc : List DV), acc.length + l.length ≤ sizeLine → (∀ y ∈ l, ∀ M' : Mem, (∀ a o, M a = some o → M' a = some o) → ∀ Q' : DQ, Q' (.d (f x y)) M' → g1 y (wipeD δ1 vs1) fun δ2 => te δ2 M' Q') → fn (acc ++ l.map fun y => .d (f x y)) M → compD (fun _ => True) g1 wYes te (wipeD δ1 vs1) D fn l acc M := by
    intro x δ1 fn l
    induction l with
    | nil => intro acc _ _ h; exact ⟨trivial, by simpa using h⟩
    | cons y ys ih =>
      intro acc hz hm h
      refine ⟨trivial, ?_⟩
      refine hm y (by simp) (mupd M D (.lst acc)) (fr acc) (fun y M3 => M3 D = some (.lst acc) ∧ acc.length < sizeLine ∧ compD (fun _ => True) g1 wYes te (wipeD δ1 vs1) D fn ys (acc ++ [y]) (mdel M3 D)) ⟨mupd_same, by simp at hz; omega, ?_⟩
      rw [mdel_mupd hD]
      exact ih (acc ++ [.d (f x y)]) (by simp at hz ⊢; omega) (fun y hy => hm y (by simp [hy])) (by simpa using h)
  have key : ∀ (l acc : List DV), acc.length + (l.flatMap sub).length ≤ sizeLine → (∀ x ∈ l, x ∈ items) → finF Q D (acc ++ (l.flatMap fun x => (sub x).map (f x)).map .d) M → wLc2.comp2 (fun _ => True) g wYes ws1 g1 wYes te (wipeD δ vs) vs1 D (finF Q D) l acc M := by
    intro l
    induction l with
    | nil => intro acc _ _ h; exact ⟨trivial, by simpa using h⟩
    | cons x xs ih =>
      intro acc hz hm h
      rw [List.flatMap_cons, List.length_append] at hz
      refine ⟨trivial, ?_⟩
      refine hb x (hm x (by simp)) _ fun δ1 h1 h2 => ?_
      refine (show ∀ P : Bool → Mem → Prop, P true (mupd M D (.lst acc)) → wYes δ1 (mupd M D (.lst acc)) P from fun P h => h) _ ?_
      rw [if_pos rfl]
      refine h1 _ (fr acc) _ ⟨mupd_same, ?_⟩
      rw [mdel_mupd hD]
      refine inner x δ1 _ (sub x) acc (by omega) h2 ?_
      refine ih _ (by rw [List.length_append, List.length_map]; omega) (fun y hy => hm y (by simp [hy])) ?_
      rw [List.flatMap_cons, List.map_append, List.map_map] at h
      rw [List.append_assoc]
      exact h
  refine key items [] (by simpa using hz) (fun _ h => h) ?_
  unfold finF
  rw [List.nil_append, allD_map]
  exact hq
theorem lc_ind (items : List DV) (Inv : List DV → List PyData → Mem → Prop) (hs : ∀ R : List DV → (Mem → Prop) → Mem → Prop, R items (fun _ => True) M → ws δ M R) (h0 : Inv items [] M)
    (hb : ∀ x l acc M' D, M' D = none → Inv (x :: l) acc M' → acc.length < sizeLine ∧ ∀ N : DQ, (∀ z M4, M4 D = none → Inv l (acc ++ [z]) M4 → N (.d z) (mupd M4 D (.lst (acc.map .d)))) → g x (wipeD δ vs) fun δ1 => te δ1 (mupd M' D (.lst (acc.map .d))) N)
    (hq : ∀ acc M', Inv [] acc M' → Q (.d (.list acc)) M') : wLc finF ws g wYes te vs δ M Q := by
  unfold wLc
  refine hs _ fun D hD => ?_
  have key : ∀ (l : List DV) (acc : List PyData) (M' : Mem), M' D = none → Inv l acc M' → compD (fun _ => True) g wYes te (wipeD δ vs) D (finF Q D) l (acc.map .d) M' := by
    intro l
    induction l with
    | nil =>
      intro acc M' _ h
      refine ⟨trivial, ?_⟩
      unfold finF
      rw [allD_map]
      exact hq acc M' h
    | cons x xs ih =>
      intro acc M' hD' h
      refine ⟨trivial, ?_⟩
      obtain ⟨hl, h⟩ := hb x xs acc M' D hD' h
      refine h _ fun z M4 e3 e4 => ?_
      refine ⟨mupd_same, by simpa using hl, ?_⟩
      rw [mdel_mupd e3]
      have := ih (acc ++ [z]) M4 e3 e4
      simpa using this
  exact key items [] M hD h0
end
end DL
namespace DL
open PySem PySem.Spec L2 RZ
open PyProof.Rows hiding St
theorem iOp_e1  (C : Int → Int → Prop) (g : Int → Int → PyData) {M Q i j} : iOp C g (.d (.int i)) (.d (.int j)) M Q = (C i j ∧ Q (.d (g i j)) M) := rfl
theorem iOp0_e1  (g : Int → Int → PyData) {M Q i j} : iOp0 g (.d (.int i)) (.d (.int j)) M Q = (Q (.d (g i j)) M) := rfl
theorem addD_e1  {M Q i j} : addD  (.d (.int i)) (.d (.int j)) M Q = (Q (.d (.int (i + j))) M) := rfl
theorem addD_e2  {M Q i j} : addD  (.d (.str i)) (.d (.str j)) M Q = (i.length + j.length ≤ sizeLine ∧ Q (.d (.str (i ++ j))) M) := rfl
theorem addD_e3  {M Q xs ys} : addD  (.d (.tuple xs)) (.d (.tuple ys)) M Q = (xs.length + ys.length ≤ sizeLine ∧ Q (.d (.tuple (xs ++ ys))) M) := rfl
theorem addD_e4  {M Q xs ys} : addD  (.d (.list xs)) (.d (.list ys)) M Q = (xs.length + ys.length ≤ sizeLine ∧ Q (.d (.list (xs ++ ys))) M) := rfl
theorem addD_e5  {M Q a ys} : addD  (.r a) (.d (.list ys)) M Q = (optD (lstMD M a) fun xs => xs.length + ys.length ≤ sizeLine ∧ Q (.d (.list (xs ++ ys))) M) := rfl
theorem addD_e6  {M Q b xs} : addD  (.d (.list xs)) (.r b) M Q = (optD (lstMD M b) fun ys => xs.length + ys.length ≤ sizeLine ∧ Q (.d (.list (xs ++ ys))) M) := rfl
theorem addD_e7  {M Q a b} : addD  (.r a) (.r b) M Q = (optD (lstMD M a) fun xs => optD (lstMD M b) fun ys => xs.length + ys.length ≤ sizeLine ∧ Q (.d (.list (xs ++ ys))) M) := rfl
theorem eqD_e1  (neg : Bool) {M Q a b} : eqD neg (.d a) (.d b) M Q = (eqOk a b = true ∧ Q (.d (.bool (if neg then !PyData.eqv a b else PyData.eqv a b))) M) := rfl
theorem inD_e1  (neg : Bool) {M Q a bs} : inD neg (.d a) (.d (.tuple bs)) M Q = (SeqAt.shaped a = true ∧ SeqAt.shaped (.tuple bs) = true ∧ Q (.d (.bool (if neg then !bs.any fun y => PyData.eqv y a else bs.any fun y => PyData.eqv y a))) M) := rfl
theorem inD_e2  (neg : Bool) {M Q a bs} : inD neg (.d a) (.d (.list bs)) M Q = (SeqAt.shaped a = true ∧ SeqAt.shaped (.list bs) = true ∧ Q (.d (.bool (if neg then !bs.any fun y => PyData.eqv y a else bs.any fun y => PyData.eqv y a))) M) := rfl
theorem isND_e1  (neg : Bool) {M Q a} : isND neg (.d a) (.d .none) M Q = (Q (.d (.bool (if neg then !isNone a else isNone a))) M) := rfl
theorem isND_e2 (neg : Bool) {M Q a} : isND neg (.r a) (.d .none) M Q = (Q (.d (.bool neg)) M) := rfl
theorem ixD_e1  {M Q i xs} : ixD  (.d (.tuple xs)) (.d (.int i)) M Q = (optD (L2.atI xs i) fun v => Q (.d v) M) := rfl
theorem ixD_e2  {M Q i xs} : ixD  (.d (.list xs)) (.d (.int i)) M Q = (optD (L2.atI xs i) fun v => Q (.d v) M) := rfl
theorem ixD_e3  {M Q i z} : ixD  (.d (.str z)) (.d (.int i)) M Q = (z.length ≤ sizeLine ∧ optD (L2.atI z.cps.toList i) fun c => Q (.d (.str ⟨#[c]⟩)) M) := rfl
theorem ixD_e4  {M Q a i} : ixD  (.r a) (.d (.int i)) M Q = (optD (M a) fun o => optD (L2.atI (moL o) i) fun v => Q v M) := rfl
theorem slD_e1  {M Q hi lo xs} : slD  (.d (.tuple xs)) lo hi M Q = (Q (.d (.tuple (cutD xs lo hi))) M) := rfl
theorem slD_e2  {M Q hi lo xs} : slD  (.d (.list xs)) lo hi M Q = (Q (.d (.list (cutD xs lo hi))) M) := rfl
theorem slD_e3  {M Q hi lo ns} : slD  (.s ns) lo hi M Q = (Q (.d (.list ((cutD ns lo hi).map .int))) M) := rfl
theorem slD_e4  {M Q a hi lo} : slD  (.r a) lo hi M Q = (optD (lstMD M a) fun xs => Q (.d (.list (cutD xs lo hi))) M) := rfl
theorem lenD_e1  {M Q z} : lenD  [.d (.str z)] M Q = (z.length ≤ sizeLine ∧ Q (.d (.int z.length)) M) := rfl
theorem lenD_e2  {M Q xs} : lenD  [.d (.tuple xs)] M Q = (Q (.d (.int xs.length)) M) := rfl
theorem lenD_e3  {M Q xs} : lenD  [.d (.list xs)] M Q = (Q (.d (.int xs.length)) M) := rfl
theorem lenD_e4  {M Q a} : lenD  [.r a] M Q = (optD (M a) fun o => Q (.d (.int (moL o).length)) M) := rfl
theorem listD_e1  {M Q xs} : listD  [.d (.list xs)] M Q = (Q (.d (.list xs)) M) := rfl
theorem listD_e2  {M Q xs} : listD  [.d (.tuple xs)] M Q = (Q (.d (.list xs)) M) := rfl
theorem listD_e3  {M Q a} : listD  [.r a] M Q = (optD (lstMD M a) fun xs => Q (.d (.list xs)) M) := rfl
theorem listM_e1  {M Q xs} : listM  [.d (.list xs)] M Q = (∀ p, M p = none → Q (.r p) (mupd M p (.lst (xs.map .d)))) := rfl
theorem listM_e2  {M Q xs} : listM  [.d (.tuple xs)] M Q = (∀ p, M p = none → Q (.r p) (mupd M p (.lst (xs.map .d)))) := rfl
theorem listM_e3  {M Q a} : listM  [.r a] M Q = (optD (lstMD M a) fun xs => ∀ p, M p = none → Q (.r p) (mupd M p (.lst (xs.map .d)))) := rfl
theorem tupleD_e1  {M Q xs} : tupleD  [.d (.list xs)] M Q = (Q (.d (.tuple xs)) M) := rfl
theorem tupleD_e2  {M Q xs} : tupleD  [.d (.tuple xs)] M Q = (Q (.d (.tuple xs)) M) := rfl
theorem tupleD_e3  {M Q a} : tupleD  [.r a] M Q = (optD (lstMD M a) fun ys => Q (.d (.tuple ys)) M) := rfl
theorem intD_e1  {M Q i} : intD  [.d (.int i)] M Q = (Q (.d (.int i)) M) := rfl
theorem allQ_e1  (f : List Bool → Bool) {M Q xs} : allQ f [.d (.list xs)] M Q = (optD (allB xs) fun bs => Q (.d (.bool (f bs))) M) := rfl
theorem appD_e1  {M Q a d} : appD  (.r a) [d] M Q = ((match M a with
    | some (.lst xs) => xs.length < sizeLine ∧ Q (.d .none) (mupd M a (.lst (xs ++ [d])))
    | _ => False)) := rfl
theorem extD_e1  {M Q a ys} : extD  (.r a) [.d (.list ys)] M Q = ((match M a with
    | some (.lst xs) => xs.length + ys.length ≤ sizeLine ∧ Q (.d .none) (mupd M a (.lst (xs ++ ys.map .d)))
    | _ => False)) := rfl
theorem seqD_e1  {M Q xs} : seqD  (.d (.list xs)) M Q = (Q (xs.map .d) (fun _ => True) M) := rfl
theorem seqD_e2  {M Q xs} : seqD  (.d (.tuple xs)) M Q = (Q (xs.map .d) (fun _ => True) M) := rfl
theorem seqD_e3  {M Q a} : seqD  (.r a) M Q = ((match M a with
    | some (.lst xs) => Q xs (fun M' => M' a = some (.lst xs)) M
    | _ => False)) := rfl
theorem reprD_e1  {M Q x} : reprD  [.d x] M Q = (Showy x ∧ Q (.d (.str x.shown)) M) := rfl
theorem bOp_e1  (left : Bool) (C : Int → Int → Prop) (g : Int → Int → PyData) {M Q i j} : bOp left C g (.d (.int i)) (.d (.int j)) M Q = (C i j ∧ Q (.d (g i j)) M) := rfl
theorem bOp_e2  (left : Bool) (C : Int → Int → Prop) (g : Int → Int → PyData) {M Q i j} : bOp left C g (.d (.bool i)) (.d (.int j)) M Q = (left = true ∧ C (b2i i) j ∧ Q (.d (g (b2i i) j)) M) := rfl
theorem bOp_e3  (left : Bool) (C : Int → Int → Prop) (g : Int → Int → PyData) {M Q i j} : bOp left C g (.d (.int i)) (.d (.bool j)) M Q = (left = false ∧ C i (b2i j) ∧ Q (.d (g i (b2i j))) M) := rfl
theorem cmpD_e1  (f : PyData → PyData → Bool) {M Q a b} : cmpD f (.d a) (.d b) M Q = (PySem.W.alike a b = true ∧ a ≠ .none ∧ a.depth ≤ 60 ∧ Q (.d (.bool (f a b))) M) := rfl
theorem sortD_e1  {M Q xs} : sortD  [.d (.list xs)] M Q = (SortOk xs ∧ Q (.d (.list (sortedL xs))) M) := rfl
theorem sortM_e1  {M Q xs} : sortM  [.d (.list xs)] M Q = (SortOk xs ∧ ∀ p, M p = none → Q (.r p) (mupd M p (.lst ((sortedL xs).map .d)))) := rfl
theorem revD_e1  {M Q xs} : revD  (.d (.tuple xs)) M Q = (Q (.d (.tuple xs.reverse)) M) := rfl
theorem revD_e2  {M Q xs} : revD  (.d (.list xs)) M Q = (Q (.d (.list xs.reverse)) M) := rfl
theorem revD_e3  {M Q a} : revD  (.r a) M Q = (optD (lstMD M a) fun xs => Q (.d (.list xs.reverse)) M) := rfl
theorem optD_e1 {α : Type} {x : α} {k : α → Prop} : optD (some x) k = k x := rfl
theorem isTy_int_none : isTy .int (.none ) = false := rfl
theorem isTy_int_bool {b} : isTy .int (.bool b) = true := rfl
theorem isTy_int_int {i} : isTy .int (.int i) = true := rfl
theorem isTy_int_str {s} : isTy .int (.str s) = false := rfl
theorem isTy_int_list {xs} : isTy .int (.list xs) = false := rfl
theorem isTy_int_tuple {xs} : isTy .int (.tuple xs) = false := rfl
theorem isTy_int_dict {kvs} : isTy .int (.dict kvs) = false := rfl
theorem isTy_bool_none : isTy .bool (.none ) = false := rfl
theorem isTy_bool_bool {b} : isTy .bool (.bool b) = true := rfl
theorem isTy_bool_int {i} : isTy .bool (.int i) = false := rfl
theorem isTy_bool_str {s} : isTy .bool (.str s) = false := rfl
theorem isTy_bool_list {xs} : isTy .bool (.list xs) = false := rfl
theorem isTy_bool_tuple {xs} : isTy .bool (.tuple xs) = false := rfl
theorem isTy_bool_dict {kvs} : isTy .bool (.dict kvs) = false := rfl
theorem isTy_str_none : isTy .str (.none ) = false := rfl
theorem isTy_str_bool {b} : isTy .str (.bool b) = false := rfl
theorem isTy_str_int {i} : isTy .str (.int i) = false := rfl
theorem isTy_str_str {s} : isTy .str (.str s) = true := rfl
theorem isTy_str_list {xs} : isTy .str (.list xs) = false := rfl
theorem isTy_str_tuple {xs} : isTy .str (.tuple xs) = false := rfl
theorem isTy_str_dict {kvs} : isTy .str (.dict kvs) = false := rfl
theorem isTy_list_none : isTy .list (.none ) = false := rfl
theorem isTy_list_bool {b} : isTy .list (.bool b) = false := rfl
theorem isTy_list_int {i} : isTy .list (.int i) = false := rfl
theorem isTy_list_str {s} : isTy .list (.str s) = false := rfl
theorem isTy_list_list {xs} : isTy .list (.list xs) = true := rfl
theorem isTy_list_tuple {xs} : isTy .list (.tuple xs) = false := rfl
theorem isTy_list_dict {kvs} : isTy .list (.dict kvs) = false := rfl
theorem isTy_tuple_none : isTy .tuple (.none ) = false := rfl
theorem isTy_tuple_bool {b} : isTy .tuple (.bool b) = false := rfl
theorem isTy_tuple_int {i} : isTy .tuple (.int i) = false := rfl
theorem isTy_tuple_str {s} : isTy .tuple (.str s) = false := rfl
theorem isTy_tuple_list {xs} : isTy .tuple (.list xs) = false := rfl
theorem isTy_tuple_tuple {xs} : isTy .tuple (.tuple xs) = true := rfl
theorem isTy_tuple_dict {kvs} : isTy .tuple (.dict kvs) = false := rfl
theorem isTy_dict_none : isTy .dict (.none ) = false := rfl
theorem isTy_dict_bool {b} : isTy .dict (.bool b) = false := rfl
theorem isTy_dict_int {i} : isTy .dict (.int i) = false := rfl
theorem isTy_dict_str {s} : isTy .dict (.str s) = false := rfl
theorem isTy_dict_list {xs} : isTy .dict (.list xs) = false := rfl
theorem isTy_dict_tuple {xs} : isTy .dict (.tuple xs) = false := rfl
theorem isTy_dict_dict {kvs} : isTy .dict (.dict kvs) = true := rfl
theorem isTyM_int_lst {xs} : isTyM .int (.lst xs) = false := rfl
theorem isTyM_int_tup {xs} : isTyM .int (.tup xs) = false := rfl
theorem isTyM_bool_lst {xs} : isTyM .bool (.lst xs) = false := rfl
theorem isTyM_bool_tup {xs} : isTyM .bool (.tup xs) = false := rfl
theorem isTyM_str_lst {xs} : isTyM .str (.lst xs) = false := rfl
theorem isTyM_str_tup {xs} : isTyM .str (.tup xs) = false := rfl
theorem isTyM_list_lst {xs} : isTyM .list (.lst xs) = true := rfl
theorem isTyM_list_tup {xs} : isTyM .list (.tup xs) = false := rfl
theorem isTyM_tuple_lst {xs} : isTyM .tuple (.lst xs) = false := rfl
theorem isTyM_tuple_tup {xs} : isTyM .tuple (.tup xs) = true := rfl
theorem isTyM_dict_lst {xs} : isTyM .dict (.lst xs) = false := rfl
theorem isTyM_dict_tup {xs} : isTyM .dict (.tup xs) = false := rfl
theorem moL_e1 {xs} : moL (.lst xs) = xs := rfl
theorem moL_e2 {xs} : moL (.tup xs) = xs := rfl
end DL
namespace DL
open PySem PySem.Spec L2 RZ
open PyProof.Rows hiding St
theorem rngD_length (lo : Int) (n : Nat) : (rngD lo n).length = n := by simp [rngD]
theorem rngD_get (lo : Int) (n i : Nat) (h : i < n) : (rngD lo n)[i]? = some (.d (.int (lo + i))) := by simp [rngD, h]
theorem rng_step {lo : Int} {n i : Nat} {x : DV} {l : List DV} (h : x :: l = (rngD lo n).drop i) : i < n ∧ x = .d (.int (lo + i)) ∧ l = (rngD lo n).drop (i + 1) := by
  have hi : i < n := by
    rcases Nat.lt_or_ge i n with q | q
    · exact q
    · rw [List.drop_of_length_le (by rw [rngD_length]; exact q)] at h; cases h
  rw [drop_get (rngD_get lo n i hi)] at h
  obtain ⟨rfl, rfl⟩ := List.cons.inj h
  exact ⟨hi, rfl, rfl⟩
theorem rng_nil {lo : Int} {n i : Nat} (h : [] = (rngD lo n).drop i) : n ≤ i := by
  have := congrArg List.length h
  simp [rngD_length] at this
  omega
theorem list_step {α : Type} {xs : List α} {i : Nat} {f : α → DV} {x : DV} {l : List DV} (h : x :: l = (xs.drop i).map f) : ∃ y, xs[i]? = some y ∧ i < xs.length ∧ x = f y ∧ l = (xs.drop (i + 1)).map f := by
  have hi : i < xs.length := by
    rcases Nat.lt_or_ge i xs.length with q | q
    · exact q
    · rw [List.drop_of_length_le q] at h; cases h
  have hg : xs[i]? = some xs[i] := List.getElem?_eq_getElem hi
  rw [drop_get hg, List.map_cons] at h
  obtain ⟨rfl, rfl⟩ := List.cons.inj h
  exact ⟨_, hg, hi, rfl, rfl⟩
theorem list_nil {α : Type} {xs : List α} {i : Nat} {f : α → DV} (h : [] = (xs.drop i).map f) : xs.length ≤ i := by
  have := congrArg List.length h
  simp at this
  omega
theorem ite_both {α : Type} {c : Bool} {a b : α} {P : α → Prop} (h1 : P a) (h2 : P b) : if c = true then P a else P b := by split <;> assumption
theorem items_step {x : DV} {l : List DV} {xs : List PyData} (h : x :: l = xs.map .d) : ∃ y ys, xs = y :: ys ∧ x = .d y ∧ l = ys.map .d := by
  cases xs with
  | nil => cases h
  | cons y ys =>
    obtain ⟨rfl, rfl⟩ := List.cons.inj h
    exact ⟨y, ys, rfl, rfl, rfl⟩
theorem viewD_new {M : Mem} {p : Addr} {xs : List PyData} : viewD (mupd M p (.lst (xs.map .d))) (.r p) = some (.list xs) := by
  show (lstMD _ p).map PyData.list = _
  unfold lstMD
  rw [mupd_same]
  show (allD (xs.map .d)).map PyData.list = _
  rw [allD_map]
  rfl
theorem viewD_at {M : Mem} {p : Addr} {xs : List PyData} (h : M p = some (.lst (xs.map .d))) : viewD M (.r p) = some (.list xs) := by
  show (lstMD _ p).map PyData.list = _
  unfold lstMD
  rw [h]
  show (allD (xs.map .d)).map PyData.list = _
  rw [allD_map]
  rfl
section
variable {ws : WI} {g : WG} {tt : WT} {te : WE} {vs : List Nat} {δ : SD} {M : Mem} {Q : DQ}
theorem lc_indT (items : List DV) (Inv : List DV → List PyData → Mem → Prop) (hs : ∀ R : List DV → (Mem → Prop) → Mem → Prop, R items (fun _ => True) M → ws δ M R) (h0 : Inv items [] M)
    (hb : ∀ x l acc M' D, M' D = none → Inv (x :: l) acc M' → acc.length < sizeLine ∧ ∀ (N : DQ) (Z : Mem → Prop), (∀ z M4, M4 D = none → Inv l (acc ++ [z]) M4 → N (.d z) (mupd M4 D (.lst (acc.map .d)))) → (∀ M4, M4 D = none → Inv l acc M4 → Z (mupd M4 D (.lst (acc.map .d)))) →
      g x (wipeD δ vs) fun δ1 => tt δ1 (mupd M' D (.lst (acc.map .d))) fun b M2 => if b = true then te δ1 M2 N else Z M2)
    (hq : ∀ acc M', Inv [] acc M' → Q (.d (.list acc)) M') : wLc finF ws g tt te vs δ M Q := by
  unfold wLc
  refine hs _ fun D hD => ?_
  have key : ∀ (l : List DV) (acc : List PyData) (M' : Mem), M' D = none → Inv l acc M' → compD (fun _ => True) g tt te (wipeD δ vs) D (finF Q D) l (acc.map .d) M' := by
    intro l
    induction l with
    | nil =>
      intro acc M' _ h
      refine ⟨trivial, ?_⟩
      unfold finF
      rw [allD_map]
      exact hq acc M' h
    | cons x xs ih =>
      intro acc M' hD' h
      refine ⟨trivial, ?_⟩
      obtain ⟨hl, h⟩ := hb x xs acc M' D hD' h
      refine h (fun y M3 => M3 D = some (.lst (acc.map .d)) ∧ (acc.map DV.d).length < sizeLine ∧ compD (fun _ => True) g tt te (wipeD δ vs) D (finF Q D) xs (acc.map .d ++ [y]) (mdel M3 D)) (fun M2 => M2 D = some (.lst (acc.map .d)) ∧ compD (fun _ => True) g tt te (wipeD δ vs) D (finF Q D) xs (acc.map .d) (mdel M2 D)) (fun z M4 e3 e4 => ?_) (fun M4 e3 e4 => ?_)
      · refine ⟨mupd_same, by simpa using hl, ?_⟩
        rw [mdel_mupd e3]
        have := ih (acc ++ [z]) M4 e3 e4
        simpa using this
      · refine ⟨mupd_same, ?_⟩
        rw [mdel_mupd e3]
        exact ih acc M4 e3 e4
  exact key items [] M hD h0
end
end DL
namespace RZ
open PySem
section
theorem typeCall_zip_strict (a b c : Value) : checkTypeCall "zip" ⟨[a, b], [(Str.ofString "strict", c)]⟩ = pure () := by kernel_rfl
theorem newCall_zip_strict (a b c : Value) : checkBuiltinCall "zip.__new__" ⟨[.type "zip", a, b], [(Str.ofString "strict", c)]⟩ = pure () := by kernel_rfl
theorem args_object_init_strict (obj a b c : Value) : argsOk "object.__init__" ⟨[obj, a, b], [(Str.ofString "strict", c)]⟩ := by unfold argsOk; kernel_rfl
theorem meets_zipT_strict (l1 l2 : Addr) (xs ys : Array Value) :
    Meets (Builtin.«zip.__new__» ⟨[.type "zip", .ref l1, .ref l2], [(Str.ofString "strict", .bool false)]⟩) (fun _ R s => s.heap.IsTuple l1 xs ∧ s.heap.IsTuple l2 ys ∧
      R (.ok (.ret (.ref (zipTH4 s.heap l1 l2).objs.size))) { s with heap := zipTH5 s.heap l1 l2 }) :=
  .of_wp fun prog w A R s h => by
    obtain ⟨hp, g, d, tk, os⟩ := s; obtain ⟨hl1, hl2, h⟩ := h
    have hsub := sub_zip
    have hL1 : Heap.IsTuple (Shared.heap ⟨hp, g, d, tk, os⟩) l1 xs := hl1
    have hL2 : Heap.IsTuple (Shared.heap ⟨hp.push { cls := .type "tuple_iterator", data := .fields #[.ref l1, .int 0 0] }, g, d, tk, os⟩) l2 ys := Heap.IsTuple.push hl2 _
    have e2 : (Str.ofString "strict" != ("strict" : Str)) = false := by decide +kernel
    wp_walk using wpAny_pyIter_tuple hL1, wpAny_pyIter_tuple hL2
    exact ⟨_, rfl, h⟩
end
section
variable {prog : Program} {w : World} {A : Around} {E : Value → Shared → Prop} {s : Shared}
theorem call_zipT_strict {l1 l2 : Addr} {xs ys : Array Value} {Q : Value → Shared → Prop} (hl1 : s.heap.IsTuple l1 xs) (hl2 : s.heap.IsTuple l2 ys)
    (h : ∀ h', IsZip h' (s.heap.objs.size + 4) (s.heap.objs.size + 2) (s.heap.objs.size + 3) .none → IsPair h' (s.heap.objs.size + 2) (.ref s.heap.objs.size) (.ref (s.heap.objs.size + 1)) →
      IsPair h' (s.heap.objs.size + 3) .none .none → h'.IsTupleIter s.heap.objs.size l1 0 → h'.IsTupleIter (s.heap.objs.size + 1) l2 0 → h'.objs.size = s.heap.objs.size + 5 →
      (∀ c o, s.heap.get? c = some o → h'.get? c = some o) → Q (.ref (s.heap.objs.size + 4)) { s with heap := h' }) :
    wpAny (model prog w) A (call (.type "zip") [.ref l1, .ref l2] [(Str.ofString "strict", .bool false)]) Q E s := by
  refine callType_newKw F.called_zip (by decide) (typeCall_zip_strict _ _ _) (newCall_zip_strict _ _ _) (fun obj => args_object_init_strict obj _ _ _) F.entry_zip_new
    (meets_zipT_strict l1 l2 xs ys) ⟨hl1, hl2, ?_⟩
  have z1 : (zipTH1 s.heap l1).objs.size = s.heap.objs.size + 1 := Heap.size_push ..
  have z2 : (zipTH2 s.heap l1 l2).objs.size = s.heap.objs.size + 2 := by rw [Heap.size_push, z1]
  have z3 : (zipTH3 s.heap l1 l2).objs.size = s.heap.objs.size + 3 := by rw [Heap.size_push, z2]
  have z4 : (zipTH4 s.heap l1 l2).objs.size = s.heap.objs.size + 4 := by rw [Heap.size_push, z3]
  have z5 : (zipTH5 s.heap l1 l2).objs.size = s.heap.objs.size + 5 := by rw [Heap.size_push, z4]
  have g5 : (zipTH5 s.heap l1 l2).get? (zipTH4 s.heap l1 l2).objs.size = some _ := Heap.get?_push_size _ rfl
  have g4 : (zipTH5 s.heap l1 l2).get? (zipTH3 s.heap l1 l2).objs.size = some _ := Heap.get?_push_of_some _ (Heap.get?_push_size _ rfl)
  have g3 : (zipTH5 s.heap l1 l2).get? (zipTH2 s.heap l1 l2).objs.size = some _ := Heap.get?_push_of_some _ (Heap.get?_push_of_some _ (Heap.get?_push_size _ rfl))
  have g2 : (zipTH5 s.heap l1 l2).get? (zipTH1 s.heap l1).objs.size = some _ := Heap.get?_push_of_some _ (Heap.get?_push_of_some _ (Heap.get?_push_of_some _ (Heap.get?_push_size _ rfl)))
  have g1 : (zipTH5 s.heap l1 l2).get? s.heap.objs.size = some _ := Heap.get?_push_of_some _ (Heap.get?_push_of_some _ (Heap.get?_push_of_some _ (Heap.get?_push_of_some _ (Heap.get?_push_size _ rfl))))
  show _ ∧ _
  rw [z2, z3, z4] at g5
  rw [z1, z2] at g3
  rw [z3] at g4
  rw [z1] at g2
  rw [z4]
  exact ⟨⟨_, g5, rfl⟩, h _ g5 g3 g4 ⟨_, g1, rfl, rfl⟩ ⟨_, g2, rfl, rfl⟩ z5 fun c o x =>
    Heap.get?_push_of_some _ (Heap.get?_push_of_some _ (Heap.get?_push_of_some _ (Heap.get?_push_of_some _ (Heap.get?_push_of_some _ x))))⟩

end
end RZ
namespace L2
open PySem PySem.Spec RZ
open PyProof.Rows hiding St
theorem callWith_type_kwB {M : Model} {A : Around} {E : Value → Shared → Prop} {s : Shared} {pos : Pos} {T : String} {first : List Value} {args : List (Bool × Sem Value)} {keywords : List (Option Str × Sem Value)} {Q : Value → Shared → Prop}
    (hplain : args.any (·.1) = false) (hkw : keywords.any (·.1.isNone) = false)
    (h : wpAny M A (evalArgs (.type T) true args keywords) (fun a s₁ => wpAny M A (call (.type T) (first ++ a.pos) a.kw) Q E s₁) E s) :
    wpAny M A (callWith pos (.type T) first args keywords) Q E s := by
  unfold callWith
  refine wpAny_bind (wpAny_holding (wpAny_mono h (fun a s₁ h₁ => wpAny_bind (wpAny_standAt ?_)) fun _ _ x => x))
  simp only [hplain, hkw, Bool.or_false]
  refine wpAny_bind (wpAny_pure ?_)
  exact wpAny_bind (wpAny_mono h₁ (fun r s₂ hr => wpAny_bind (wpAny_holding (wpAny_point (wpAny_pure hr)))) fun _ _ x => x)
theorem callWith_typeK {M : Model} {A : Around} {E : Value → Shared → Prop} {s : Shared} {env : Env} {pos : Pos} {T : String} {e : Expr} {rest : List Expr} {kws : List Keyword} {Q : Value → Shared → Prop}
    (h : wpAny M A (spliced (backTo pos (starEach (e :: rest) env))) (fun vs s₁ => wpAny M A (evalAll ((backToKw pos (keywordEach kws env)).map (·.2)))
      (fun kvs s₂ => wpAny M A (call (.type T) vs (((backToKw pos (keywordEach kws env)).filterMap (·.1)).zip kvs)) Q E s₂) E s₁) E s)
    (he : backTo pos (starEach (e :: rest) env) = (false, eval e env) :: backTo pos (starEach rest env) := by rfl)
    (hplain : (backTo pos (starEach (e :: rest) env)).any (·.1) = false := by rfl)
    (hall : (backToKw pos (keywordEach kws env)).all (·.1.isSome) = true := by rfl)
    (hkw : (backToKw pos (keywordEach kws env)).any (·.1.isNone) = false := by rfl) :
    wpAny M A (callWith pos (.type T) [] (backTo pos (starEach (e :: rest) env)) (backToKw pos (keywordEach kws env))) Q E s := by
  refine callWith_type_kwB hplain hkw ?_
  rw [he] at h ⊢
  exact evalArgs_kwB hall h
def iZipS (K : PySem.W.Frag) (ta : TA) : TI := fun σ H R => ta σ H fun vs H1 => ∃ a b xs ys, vs = [.ref a, .ref b] ∧ SqT K H1 a xs ∧ SqT K H1 b ys ∧ R (ItzT K a b) H1
theorem pi_zipS {X : Cx} {e e2 : Expr} {ta : TA} {p pos tpos kp cp : Pos} {elts : List Expr} {kk cj : Nat} (hg : Gl X "zip") (hm : X.mg "zip" = none) (ha : PA X [e, e2] ta)
    (hs : starEach [e, e2] X.env = (false, eval e X.env) :: starEach [e2] X.env := by rfl) (hpl : (backTo pos (starEach [e, e2] X.env)).any (·.1) = false := by rfl) :
    PI X (.Tuple elts kk tpos) (.Call (.Name "zip" p) [e, e2] [⟨some "strict", .Constant (.bool false) cj cp, kp⟩] pos) (iZipS X.K ta) := by
  refine ⟨fun pins s σ H R I h => ?_⟩
  have he : eval (.Call (.Name "zip" p) [e, e2] [⟨some "strict", .Constant (.bool false) cj cp, kp⟩] pos) X.env = (do callWith pos (← eval (.Name "zip" p) X.env) [] (backTo pos (starEach [e, e2] X.env)) (backToKw pos (keywordEach [⟨some "strict", .Constant (.bool false) cj cp, kp⟩] X.env))) := by rfl
  rw [he]
  refine wpAny_bind (ld_blt I hg hm PyProof.Rows.boot_zip (callWith_typeK (thn (ha.run pos pins s σ H _ I h) fun us s0 ⟨vs, H0, I0, r1, q1⟩ => kws_cons (thn ((pe_bl (X := X) (b := false) (j := cj) (pos := cp)).run pins s0 σ H0 (fun x H' => x = .bl false ∧ H' = H0) I0 ⟨rfl, rfl⟩) fun kv s1 ⟨x, H1, I1, rk, ex, eh⟩ => kws_nil ?_)) (by rw [hs]; rfl) hpl))
  subst ex eh
  cases rk
  show wpAny (model X.prog X.w) X.A (call (.type "zip") us [(Str.ofString "strict", .bool false)]) _ _ _
  obtain ⟨a, b, xs, ys, ex, hqx, hqy, q⟩ := q1
  subst ex
  cases r1 with
  | cons r rr =>
    cases rr with
    | cons r' rr =>
      cases rr
      cases r
      cases r'
      have fresh5 : ∀ c, c ∈ [s1.heap.objs.size + 4, s1.heap.objs.size + 2, s1.heap.objs.size + 3, s1.heap.objs.size, s1.heap.objs.size + 1] → FpOk X pins H1 c := fun c hcm => by
        have e' : c = s1.heap.objs.size + 4 ∨ c = s1.heap.objs.size + 2 ∨ c = s1.heap.objs.size + 3 ∨ c = s1.heap.objs.size ∨ c = s1.heap.objs.size + 1 := by simpa using hcm
        have hle : s1.heap.objs.size ≤ c := by
          rcases e' with z | z | z | z | z
          · rw [z]; exact Nat.le_add_right _ _
          · rw [z]; exact Nat.le_add_right _ _
          · rw [z]; exact Nat.le_add_right _ _
          · rw [z]; exact Nat.le_refl _
          · rw [z]; exact Nat.le_add_right _ _
        exact I1.fpOk hle (I1.hok.fresh hle)
      obtain ⟨its, rv, p1, _⟩ := I1.tuple hqx
      obtain ⟨its2, rv2, p2, _⟩ := I1.tuple hqy
      obtain ⟨o1, ho1, _⟩ := id p1
      obtain ⟨o2, ho2, _⟩ := id p2
      refine call_zipT_strict (show s1.heap.IsTuple a its.toArray from p1) (show s1.heap.IsTuple b its2.toArray from p2) fun h' hz hTI hTO h1 h2 hsz hk => wpAny_pyIter_zip hz ?_
      have I2 : Inv X pins σ H1 { s1 with heap := h' } := I1.kept (t' := s1.toks) hk
      exact ⟨s1.heap.objs.size + 4, [s1.heap.objs.size + 4, s1.heap.objs.size + 2, s1.heap.objs.size + 3, s1.heap.objs.size, s1.heap.objs.size + 1], _, _, H1, rfl, I2, turn_zipT (PySem.W.ktu_apart s1.heap.objs.size a b (Heap.lt_size ho1) (Heap.lt_size ho2)), ⟨hz, hTI, ⟨_, _, hTO⟩, h1, h2⟩, fresh5, q⟩

end L2
namespace DL
open PySem PySem.Spec L2 RZ
open PyProof.Rows hiding St
def zipT2 : List DV → Mem → (List DV → (Mem → Prop) → Mem → Prop) → Prop
  | [.d (.tuple xs), .d (.tuple ys)], M, Q => Q (zipD xs ys) (fun _ => True) M
  | _, _, _ => False
theorem zipT2_e1 {xs ys M Q} : zipT2 [.d (.tuple xs), .d (.tuple ys)] M Q = Q (zipD xs ys) (fun _ => True) M := rfl
def srcZs (wa : WA) : WI := fun δ M Q => wa δ M fun ds M1 => zipT2 ds M1 Q
theorem di_zipS {X : Cx} {e e2 : Expr} {wa : WA} {p pos tpos kp cp : Pos} {elts : List Expr} {kk cj : Nat} (hg : Gl X "zip") (hm : X.mg "zip" = none) (ha : DA X [e, e2] wa)
    (hs : starEach [e, e2] X.env = (false, eval e X.env) :: starEach [e2] X.env := by rfl) (hpl : (backTo pos (starEach [e, e2] X.env)).any (·.1) = false := by rfl) :
    DI X (.Tuple elts kk tpos) (.Call (.Name "zip" p) [e, e2] [⟨some "strict", .Constant (.bool false) cj cp, kp⟩] pos) (srcZs wa) :=
  pi_imp (pi_zipS hg hm ha hs hpl) fun σ H R ⟨δ, M, Qd, S, Rm, h, E⟩ => ⟨δ, M, _, S, Rm, h, fun ds M1 vs H1 k1 R1 r1 h1 => by
    unfold zipT2 at h1
    split at h1
    · obtain ⟨v, u, rfl, rv, ru⟩ := two_inv r1
      obtain ⟨a, xs, e1, s1, ra⟩ := RepP.tupK rv
      obtain ⟨b, ys, e2, s2, rb⟩ := RepP.tupK ru
      subst e1 e2
      exact ⟨a, b, xs, ys, rfl, s1 _ _ (Keep.refl _ _), s2 _ _ (Keep.refl _ _), E _ _ M1 H1 _ k1 R1 h1 (itd_zipT s1 ra s2 rb)⟩
    · exact h1.elim⟩
end DL
namespace L2
open PySem PySem.Spec PyProof.Rows
section
variable {P : Program} {w : World} {A : Around} {E : Value → Shared → Prop} {s : Shared}
theorem call_setT_tups {l : Addr} {items : Array Value} (ks : List (Addr × List Int)) {Q : Value → Shared → Prop} (hh : A.handled = none) (hl : s.heap.IsTuple l items) (hit : items.toList = ks.map fun p => Value.ref p.1)
    (hk : ∀ p ∈ ks, IsT P w s.heap p.2 p.1) (hfew : ks.length < 64) (hu : A.units + 3 < cLine)
    (h : ∀ (h' : Heap) (tk : Nat) L es ep t, SetTR P w h' s.heap.objs.size L es ep t → Got ks ks.length L → (∀ b o, s.heap.get? b = some o → h'.get? b = some o) → Q (.ref s.heap.objs.size) { s with heap := h', toks := tk }) :
    wpAny (model P w) A (call (.type "set") [.ref l]) Q E s := by
  have hisz : items.size = ks.length := by
    have q := congrArg List.length hit
    rw [Array.length_toList, List.length_map] at q
    exact q
  obtain ⟨c, tl, hmro⟩ := F.called_set.mro
  have hmade := F.called_set.made
  have hsub := F.called_set.sub
  refine wpAny_call (codeAny_of_tree ?_)
  show wpAny _ _ (callAny (.type "set") _) _ _ _
  refine wpAny_pure ⟨Code.quiet_builtin _ (by decide +kernel), codeAny_builtin F.entry_type_call ?_⟩
  rw [Around.under_plain (weight_type_call_type "set" [.ref l] []) rfl]
  have h1 := F.called_set.notType
  have h2 := F.called_set.canCreate
  have hct := F.typeCall_set_1 (.ref l)
  repeat (any_goals (first | assumption | wp_step))

  refine codeAny_mono (code_set_led1 (.ref l) (E := E) (Q₁ := fun obj s₁ => obj = .ref s.heap.objs.size ∧ s₁ = { s with heap := s.heap.push { cls := .type "set", dict := none, data := .set #[] 0 (.fresh 0 0 (!w.params.followText "set-order")) } }) ⟨rfl, rfl⟩) fun r s₁ hr => ?_
  cases r with
  | error e => exact hr
  | ok fl =>
    cases fl with
    | ret obj =>
      obtain ⟨rfl, rfl⟩ := hr
      have hS : (s.heap.push { cls := .type "set", dict := none, data := .set #[] 0 (.fresh 0 0 (!w.params.followText "set-order")) }).get? s.heap.objs.size = some { cls := .type "set", dict := none, data := .set #[] 0 (.fresh 0 0 (!w.params.followText "set-order")) } := Heap.get?_push_size _ rfl
      have hT : Shared.TypeIs { s with heap := s.heap.push { cls := .type "set", dict := none, data := .set #[] 0 (.fresh 0 0 (!w.params.followText "set-order")) } } (.ref s.heap.objs.size) "set" := ⟨_, hS, rfl⟩
      have hli := F.called_set.init.lookup
      have hbi := F.called_set.init.bind (.ref s.heap.objs.size)
      repeat (any_goals (first | assumption | wp_step))

      refine codeAny_mono (codeAny_call_builtin (R := wants (fun r s₂ => r = .none ∧ ∃ h' tk L es ep t, s₂ = { s with heap := h', toks := tk } ∧ SetTR P w h' s.heap.objs.size L es ep t ∧ Got ks ks.length L ∧
          (∀ b o, s.heap.get? b = some o → h'.get? b = some o)) E) F.called_set.init.plain F.entry_set_init (check_set_init_1 hT ?_)) fun r₂ s₂ hr₂ => ?_
      · obtain ⟨ol, hol, hcl, nl, hdl⟩ := hl
        obtain ⟨ocls, odict, odata, oslots⟩ := ol
        simp only at hcl hdl
        subst hcl; subst hdl
        have hol' : (s.heap.push { cls := .type "set", dict := none, data := .set #[] 0 (.fresh 0 0 (!w.params.followText "set-order")) }).get? l = some { cls := .type "tuple", dict := odict, data := .seq items nl, slots := oslots } := Heap.get?_push_of_some _ hol
        have hsls := F.sub_tuple_set
        have hslf := F.sub_tuple_frozenset
        have hne : (Value.type "tuple" == Value.type "dict") = false := by decide
        have hl1 : (s.heap.push { cls := .type "set", dict := none, data := .set #[] 0 (.fresh 0 0 (!w.params.followText "set-order")) }).IsTuple l items := ⟨_, hol', rfl, nl, rfl⟩
        unfold Builtin.«set.__init__» noKeywords Builtin.Frozenset.updateFrom
        generalize hPI : pyIter = PI
        wp_walk
        subst hPI

        refine wpAny_pyIter_tuple hl1 ?_
        refine wpAny_bind (wpAny_runValue ?_)
        have hlS : l < s.heap.objs.size := Heap.lt_size hol
        have hh3 : A.in1.in1.in1.handled = none := by simp [hh]
        have hz1 : (s.heap.push { cls := .type "set", dict := none, data := .set #[] 0 (.fresh 0 0 (!w.params.followText "set-order")) }).objs.size = s.heap.objs.size + 1 := Heap.size_push ..
        have hneI : l ≠ (s.heap.push { cls := .type "set", dict := none, data := .set #[] 0 (.fresh 0 0 (!w.params.followText "set-order")) }).objs.size := by
          rw [Heap.size_push]; exact Nat.ne_of_lt (Nat.lt_succ_of_lt hlS)
        have hSf : s.heap.objs.size ∉ [(s.heap.push { cls := .type "set", dict := none, data := .set #[] 0 (.fresh 0 0 (!w.params.followText "set-order")) }).objs.size, l] := by
          rw [Heap.size_push]; simp only [List.mem_cons, List.mem_singleton, List.not_mem_nil, or_false, not_or]
          exact ⟨Nat.ne_of_lt (Nat.lt_succ_self _), Nat.ne_of_gt hlS⟩
        have hval : ∀ (i : Nat) (v : Value), items[i]? = some v → ∃ p, ks[i]? = some p ∧ v = .ref p.1 := fun i v hv => by
          have q : items.toList[i]? = some v := by rw [Array.getElem?_toList]; exact hv
          rw [hit, List.getElem?_map] at q
          cases hq : ks[i]? with
          | none => rw [hq] at q; cases q
          | some p =>
            rw [hq] at q
            exact ⟨p, rfl, (Option.some.inj q).symm⟩
        have none_of : ∀ b, s.heap.objs.size ≤ b → s.heap.get? b = none := fun b hb => by
          cases q : s.heap.get? b with
          | none => rfl
          | some o => exact absurd (Nat.lt_of_lt_of_le (Heap.lt_size q) hb) (Nat.lt_irrefl _)
        refine set_update_tups ((Walks.tuple hh3 _ l hneI items).toS) s.heap.objs.size
          hSf ks hisz hfew hval s.heap hk (none_of _ (Nat.le_refl _)) (fun b hb => none_of b (by
            rw [List.mem_singleton.mp hb, Heap.size_push]
            exact Nat.le_succ _)) hu (items.size - 0) 0 _ (by omega) (Nat.zero_le _)
          ⟨⟨_, Heap.get?_push_size _ rfl, rfl, rfl⟩, (Heap.IsTuple.push hl1 _)⟩ (fun b o e => Heap.get?_push_of_some _ (Heap.get?_push_of_some _ e)) ?hS0 ?hR
        case hS0 =>
          have hget : ((s.heap.push { cls := .type "set", dict := none, data := .set #[] 0 (.fresh 0 0 (!w.params.followText "set-order")) }).push { cls := .type "tuple_iterator", data := .fields #[.ref l, .int 0 0] }).get? s.heap.objs.size
              = some { cls := .type "set", dict := none, data := .set #[] 0 (.fresh 0 0 (!w.params.followText "set-order")) } := Heap.get?_push_of_some _ hS
          exact ⟨[], #[], 0, _, setTR_fresh hget, Got.zero ks⟩
        case hR =>
          intro s' L es ep t hm hS' g' hkp
          obtain ⟨h', g2, d', tk', os'⟩ := s'
          have eg : g2 = s.gens := hm.gens
          have ed : d' = s.drawn := hm.drawn
          have eo : os' = s.os := hm.os
          subst eg; subst ed; subst eo
          show wpAny _ _ _ _ _ _
          refine wpAny_pure ?_
          show wpAny _ _ (ret Value.none) _ _ _
          rw [hisz] at g'
          exact wpAny_pure ⟨rfl, h', tk', L, es, ep, t, rfl, hS', g', hkp⟩

      · cases r₂ with
        | error e => exact hr₂
        | ok fl₂ =>
          cases fl₂ with
          | ret r =>
            obtain ⟨rfl, h', tk, L, es, ep, t, rfl, hS', g', hk'⟩ := hr₂
            repeat (any_goals (first | assumption | wp_step))
            exact h _ _ _ _ _ _ hS' g' hk'
          | _ => exact hr₂.elim
    | _ => exact hr.elim

end
end L2
namespace L2
open PySem PySem.Spec RZ
open PyProof.Rows hiding St
def rSetOfA (K : PySem.W.Frag) (P : Program) (w : World) : List V → Hp → VK → Prop := fun xs H Q => ∃ (l : Addr) (ks : List (Addr × List Int)), xs = [V.ref l] ∧ (SqL K H l (ks.map fun p => V.ref p.1) ∨ SqT K H l (ks.map fun p => V.ref p.1)) ∧ (∀ p ∈ ks, SqT K H p.1 (p.2.map V.int)) ∧ ks.length < 64 ∧
  ∀ a L, H a = none → (∀ p ∈ L, p ∈ ks) → (∀ p ∈ ks, p.2 ∈ L.map (·.2)) → Q (.ref a) (upd H a (SetTO P w a L))
theorem cr_setOfA {X : Cx} (hc : X.calm = true) (hu : X.A.units + 64 < cLine) : CallR X (.type "set") (rSetOfA X.K X.prog X.w) := by
  intro pins s σ H xs us Q I r h
  obtain ⟨l, ks, rfl, hl, hk, hf, q⟩ := h
  rcases hl with hl | hl
  · exact cr_setOfT hc hu pins s σ H _ us Q I r ⟨l, ks, rfl, hl, hk, hf, q⟩
  · rw [Vals.ref1 r]
    obtain ⟨its, rv, pl, hz⟩ := I.tuple hl
    have hn : H s.heap.objs.size = none := I.hok.fresh (Nat.le_refl _)
    refine call_setT_tups (P := X.prog) (w := X.w) ks (I.ok.hd hc) (show s.heap.IsTuple l its.toArray from pl) (by simpa using refs_of_vals rv) (fun p hp => I.isT (hk p hp)) hf (by omega) fun h' tk L es ep t R g k => ?_
    refine ⟨.ref s.heap.objs.size, upd H s.heap.objs.size (SetTO X.prog X.w s.heap.objs.size L), I.laid (t' := tk) k (Nat.le_refl _) (setTO_new R.t0), rfl, q _ L hn (fun p hp => ?_) fun p hp => ?_⟩
    · exact List.mem_of_mem_take (g.sub p hp)
    · exact g.all p (by rw [List.take_length]; exact hp)
end L2
namespace DL
open PySem PySem.Spec L2 RZ
open PyProof.Rows hiding St
def tupI (k : List Int) : PyData := .tuple (k.map .int)
def ssD (x : DV) (M : Mem) (Q : DQ) : Prop := ∃ (ks : List (List Int)) (d : Nat) (B : Int), (x = .d (.list (ks.map tupI)) ∨ x = .d (.tuple (ks.map tupI))) ∧ ks.length < 64 ∧ 1 ≤ d ∧ (∀ k ∈ ks, k.length = d ∧ TS.Bd B k) ∧
  ∀ zs : List (List Int), (∀ k, k ∈ zs ↔ k ∈ ks) → zs.Nodup → zs.Pairwise (fun a b => TS.code B a ≤ TS.code B b) → Q (.d (.list (zs.map tupI))) M
def wSS (we : WE) : WE := fun δ M Q => we δ M fun x M1 => ssD x M1 Q
theorem RepA.ints_inv {K : PySem.W.Frag} {H : Hp} {M : Mem} : ∀ {k : List Int} {vs : List V}, RepA K H M vs (k.map .int) → vs = k.map V.int
  | [], _, h => by cases h; rfl
  | n :: k, _, h => by
    cases h with
    | cons h1 h2 => rw [RepP.int_inv h1, RepA.ints_inv h2]; rfl
theorem RepA.tups {K : PySem.W.Frag} {H : Hp} {M : Mem} : ∀ {ks : List (List Int)} {vs : List V}, RepA K H M vs (ks.map tupI) → ∃ ps : List (Addr × List Int), vs = ps.map (fun p => V.ref p.1) ∧ ps.map (·.2) = ks ∧ (∀ p ∈ ps, SqT K H p.1 (p.2.map V.int)) ∧ ∀ p ∈ ps, RepP K H M (.ref p.1) (tupI p.2)
  | [], _, h => by cases h; exact ⟨[], rfl, rfl, (fun p h => by cases h), (fun p h => by cases h)⟩
  | k :: ks, _, h => by
    cases h with
    | cons h1 h2 =>
      obtain ⟨ps, e1, e2, e3, e4⟩ := RepA.tups h2
      obtain ⟨a, xs, e, s, ra⟩ := RepP.tup_inv h1
      have := RepA.ints_inv ra
      subst this e
      refine ⟨(a, k) :: ps, by rw [e1]; rfl, by rw [List.map_cons, e2], fun p hp => ?_, fun p hp => ?_⟩
      · rcases List.mem_cons.mp hp with rfl | hp
        · exact s
        · exact e3 p hp
      · rcases List.mem_cons.mp hp with rfl | hp
        · exact h1
        · exact e4 p hp
theorem RepA.of_tups {K : PySem.W.Frag} {H : Hp} {M : Mem} : ∀ {ps : List (Addr × List Int)}, (∀ p ∈ ps, RepP K H M (.ref p.1) (tupI p.2)) → RepA K H M (ps.map fun p => V.ref p.1) ((ps.map (·.2)).map tupI)
  | [], _ => .nil
  | p :: ps, h => .cons (h p (by simp)) (RepA.of_tups fun q hq => h q (by simp [hq]))
theorem SqT.keepN {K : PySem.W.Frag} {H : Hp} {a p : Addr} {o : HO} {xs : List V} (h : SqT K H a xs) (hp : H p = none) : SqT K (upd H p o) a xs := by
  rcases h with h | h
  · refine .inl ?_
    rcases h with h | ⟨ob, h⟩
    · exact .inl (by rw [upd_ne (ne_of_none h hp)]; exact h)
    · exact .inr ⟨ob, by rw [upd_ne (ne_of_none h hp)]; exact h⟩
  · exact .inr h
section
variable {X : Cx} {a : Expr} {wa : WE}
theorem de_sortSet {p1 p2 pos pos2 : Pos} (hu : X.A.units + 64 < cLine) (hc : X.calm = true) (hg : Gl X "sorted") (hm : X.mg "sorted" = none) (hg2 : Gl X "set") (hm2 : X.mg "set" = none) (ha : DE X a wa)
    (hv : bootBuiltins "sorted" = some (.builtin "sorted") := by decide +kernel) (hv2 : bootBuiltins "set" = some (.type "set") := by decide +kernel)
    (he : starEach [a] X.env = (false, eval a X.env) :: starEach [] X.env := by rfl) (hpl : (backTo pos2 (starEach [] X.env)).any (·.1) = false := by rfl)
    (he2 : starEach [.Call (.Name "set" p2) [a] [] pos2] X.env = (false, eval (.Call (.Name "set" p2) [a] [] pos2) X.env) :: starEach [] X.env := by rfl) (hpl2 : (backTo pos (starEach [] X.env)).any (·.1) = false := by rfl) :
    DE X (.Call (.Name "sorted" p1) [.Call (.Name "set" p2) [a] [] pos2] [] pos) (wSS wa) := by
  have h1 := pe_callTy (p := p2) (cr_setOfA hc hu) hg2 hm2 hv2 (pa_cons ha pa_nil he) (by decide) (by decide) he hpl
  have h2 := pe_callB (p := p1) (cr_sortedT hc) hg hm hv (pa_cons h1 pa_nil he2) (by decide) (by decide) he2 hpl2
  refine pe_imp h2 fun σ H Q ⟨δ, M, Qd, S, R, h, E⟩ => ?_
  refine ⟨δ, M, _, S, R, h, fun d M1 v H1 k1 R1 r1 h1 => ?_⟩
  obtain ⟨ks, n, B, hx, hl, hd, hB, q⟩ := h1
  have E1 := E.step k1
  have key : ∃ (l : Addr) (ps : List (Addr × List Int)), v = .ref l ∧ (SqL X.K H1 l (ps.map fun p : Addr × List Int => V.ref p.1) ∨ SqT X.K H1 l (ps.map fun p => V.ref p.1)) ∧ ps.map (·.2) = ks ∧ (∀ p ∈ ps, SqT X.K H1 p.1 (p.2.map V.int)) ∧ ∀ p ∈ ps, RepP X.K H1 M1 (.ref p.1) (tupI p.2) := by
    rcases hx with rfl | rfl
    · obtain ⟨l, vs, e, s, _, ra⟩ := RepP.lst_inv r1
      obtain ⟨ps, rfl, e2, e3, e4⟩ := RepA.tups ra
      exact ⟨l, ps, e, .inl (SqL.of s), e2, e3, e4⟩
    · obtain ⟨l, vs, e, s, ra⟩ := RepP.tup_inv r1
      obtain ⟨ps, rfl, e2, e3, e4⟩ := RepA.tups ra
      exact ⟨l, ps, e, .inr s, e2, e3, e4⟩
  obtain ⟨l, ps, rfl, hs, hps, ht, hr⟩ := key
  refine ⟨l, ps, rfl, hs, ht, by rw [← List.length_map (f := (·.2)) (as := ps), hps]; exact hl, fun sa L hsa hL1 hL2 => ?_⟩
  refine ⟨sa, L, n, B, rfl, upd_same, fun p hp => SqT.keepN (ht p (hL1 p hp)) hsa, hd, fun p hp => hB _ (by rw [← hps]; exact List.mem_map.mpr ⟨p, hL1 p hp, rfl⟩), fun L' pa pm nd hfew pw hpa => ?_⟩
  have kk : Keep H1 M1 (upd H1 sa (SetTO X.prog X.w sa L)) M1 := Keep.new R1 hsa
  have Rs : RelM X.K (upd H1 sa (SetTO X.prog X.w sa L)) M1 := R1.new hsa
  refine (E1.step kk).lst Rs (RepA.of_tups fun p hp => RepP.keep kk _ _ (hr p (hL1 p (pm.mem_iff.mp hp)))) hpa (q (L'.map (·.2)) (fun k => ?_) nd (List.pairwise_map.mpr pw))
  rw [(pm.map (·.2)).mem_iff]
  constructor
  · intro hk
    obtain ⟨p, hp, rfl⟩ := List.mem_map.mp hk
    rw [← hps]
    exact List.mem_map.mpr ⟨p, hL1 p hp, rfl⟩
  · intro hk
    rw [← hps] at hk
    obtain ⟨p, hp, rfl⟩ := List.mem_map.mp hk
    exact hL2 p hp
end
end DL
namespace Law
open PySem PySem.Spec L2 RZ DL
open PyProof.Rows hiding St
local macro_rules | `(tactic| walk_at "dl") => `(tactic| try simp only [wSeq, wIfS, wRet, wRetN, wB, wOp, wV, wC, wAndV, wOrV, wNotV, bOf, wNotT, wAndT, wOrT, wChain, iOp_e1, iOp0_e1, addD_e1, addD_e2, addD_e3, addD_e4, addD_e5, addD_e6, addD_e7, eqD_e1, inD_e1, inD_e2, isND_e1, isND_e2, wCall, wCons, wNil, wCB, isiK, isOne, isTwo, lenD_e1, lenD_e2, lenD_e3, lenD_e4, ixD_e1, ixD_e2, ixD_e3, ixD_e4, moL_e1, moL_e2, startD, wAsg, gNameD, intD_e1, mulD, mkD, wSetIx, wLstM, wTupM, wSl, wPart, wNoPart, slD_e1, slD_e2, slD_e3, slD_e4, wDrop, wNext, wPar, wMtL, appD_e1, extD_e1, listD_e1, listD_e2, listD_e3, listM_e1, listM_e2, listM_e3, tupleD_e1, tupleD_e2, tupleD_e3, srcR1, srcR2, srcE, srcZ, srcS, srcZs, zipT2_e1, wSS, seqD_e1, seqD_e2, seqD_e3, reprD_e1, allQ_e1, wIf, wNeg, wFor, gTupD, gConsD, gNilD, allD, allD_map, DL.allB, Option.map_some, List.map, List.length_cons, List.length_nil, List.replicate, List.nil_append, List.cons_append, List.getElem?_cons_zero, List.getElem?_cons_succ, List.set_cons_zero, List.set_cons_succ, Nat.reduceSub, Nat.reduceLT, atI_lit, ixN_lit, cutD_ll, cutD_l, cutD_u, mupd_same, mupd_mupd, Nat.reduceAdd, wipeD, isTy_int_none, isTy_int_bool, isTy_int_int, isTy_int_str, isTy_int_list, isTy_int_tuple, isTy_int_dict, isTy_bool_none, isTy_bool_bool, isTy_bool_int, isTy_bool_str, isTy_bool_list, isTy_bool_tuple, isTy_bool_dict, isTy_str_none, isTy_str_bool, isTy_str_int, isTy_str_str, isTy_str_list, isTy_str_tuple, isTy_str_dict, isTy_list_none, isTy_list_bool, isTy_list_int, isTy_list_str, isTy_list_list, isTy_list_tuple, isTy_list_dict, isTy_tuple_none, isTy_tuple_bool, isTy_tuple_int, isTy_tuple_str, isTy_tuple_list, isTy_tuple_tuple, isTy_tuple_dict, isTy_dict_none, isTy_dict_bool, isTy_dict_int, isTy_dict_str, isTy_dict_list, isTy_dict_tuple, isTy_dict_dict, isTyM_int_lst, isTyM_int_tup, isTyM_bool_lst, isTyM_bool_tup, isTyM_str_lst, isTyM_str_tup, isTyM_list_lst, isTyM_list_tup, isTyM_tuple_lst, isTyM_tuple_tup, isTyM_dict_lst, isTyM_dict_tup, wFrz, wRev, revD_e1, revD_e2, revD_e3, wPar3, optD_e1, lstMD, sortD_e1, sortM_e1, bOp_e1, bOp_e2, bOp_e3, cmpD_e1, Option.bind_some, eqOk_int, eqOk_bool, eqOk_ib, eqOk_bi, eqOk_str, eqv_int, eqv_bool, eqv_str, shaped_bool, shaped_int, shaped_none, BEq.rfl, Bool.or_true, Bool.or_false, Bool.true_or, Bool.false_or, Bool.not_true, Bool.not_false, Bool.and_true, Bool.and_false, Bool.true_and, Bool.false_and, eq_self, true_and, if_true, if_false, Bool.false_eq_true])
def top (i : Nat) : Stmt := PySem.Challenge.pw_somerows_k01_cases_recognized.main.body.getD i (.Pass ⟨0, 0, 0, 0⟩)
structure Txt (K : PySem.W.Frag) (mg : Str → Option Value) : Prop where
  b_all : mg "all" = none
  b_any : mg "any" = none
  b_bool : mg "bool" = none
  b_enumerate : mg "enumerate" = none
  b_int : mg "int" = none
  b_isinstance : mg "isinstance" = none
  b_len : mg "len" = none
  b_list : mg "list" = none
  b_range : mg "range" = none
  b_repr : mg "repr" = none
  b_set : mg "set" = none
  b_sorted : mg "sorted" = none
  b_str : mg "str" = none
  b_tuple : mg "tuple" = none
  b_zip : mg "zip" = none
  g_MOST_KINDS : GI mg "MOST_KINDS" (2)
  g_MOST_PARENTS : GI mg "MOST_PARENTS" (3)
  g_MOST_VALUES : GI mg "MOST_VALUES" (3)
def isInt : PyData → Bool
  | .int _ => true
  | _ => false
def sp_is_integer : SpD := fun ds M Q => ∃ d, ds = [.d d] ∧ Q (.d (.bool (isInt d))) M
def isWithin (d : PyData) (lo hi : Int) : Bool := match d with
  | .int i => decide (lo ≤ i) && decide (i ≤ hi)
  | _ => false
def sp_is_within : SpD := fun ds M Q => ∃ d lo hi, ds = [.d d, .d (.int lo), .d (.int hi)] ∧ Q (.d (.bool (isWithin d lo hi))) M
def isPair (d : PyData) (k v : Int) : Bool := match d with
  | .tuple [a, b] => isWithin a 0 (k - 1) && isWithin b 0 (v - 1)
  | _ => false
theorem list2 {α : Type} {xs : List α} (h : xs.length = 2) : ∃ a b, xs = [a, b] := by
  match xs, h with
  | [a, b], _ => exact ⟨a, b, rfl⟩
theorem isPair_no {xs : List PyData} {k v : Int} (h : xs.length ≠ 2) : isPair (.tuple xs) k v = false := by
  unfold isPair
  split
  · rename_i a b e
    cases e
    exact absurd rfl h
  · rfl
def sp_is_pair : SpD := fun ds M Q => ∃ d k v, ds = [.d d, .d (.int k), .d (.int v)] ∧ Q (.d (.bool (isPair d k v))) M
def risingL : List PyData → Bool
  | x :: y :: r => PySem.W.dataLt x y && risingL (y :: r)
  | _ => true
def sp_is_rising : SpD := fun ds M Q => ∃ xs, ds = [.d (.tuple xs)] ∧ xs.length ≤ sizeLine ∧ (∀ x ∈ xs, x ≠ .none ∧ x.depth ≤ 60 ∧ ∀ y ∈ xs, PySem.W.alike x y = true) ∧ Q (.d (.bool (risingL xs))) M
theorem zip_mem : ∀ {xs ys : List PyData} {z : DV}, z ∈ zipD xs ys → ∃ x y, z = .d (.tuple [x, y]) ∧ x ∈ xs ∧ y ∈ ys
  | [], _, _, h => by simp [zipD] at h
  | _ :: _, [], _, h => by simp [zipD] at h
  | x :: xs, y :: ys, z, h => by
    simp only [zipD, List.mem_cons] at h
    rcases h with rfl | h
    · exact ⟨x, y, rfl, by simp, by simp⟩
    · obtain ⟨a, b, e, h1, h2⟩ := zip_mem h
      exact ⟨a, b, e, by simp [h1], by simp [h2]⟩
def ltPair (z : DV) : Bool := match z with
  | .d (.tuple [x, y]) => PySem.W.dataLt x y
  | _ => false
theorem rising_zip : ∀ xs : List PyData, ((zipD xs (xs.drop 1)).map ltPair).all (fun b => b) = risingL xs
  | [] => rfl
  | [x] => rfl
  | x :: y :: r => by
    have ih := rising_zip (y :: r)
    simp only [List.drop_succ_cons, List.drop_zero] at ih ⊢
    simp only [zipD, List.map_cons, List.all_cons, risingL, ltPair]
    rw [← ih]
def isCaseL (n v k t j : PyData) : Bool := isWithin n 1 3 && (isWithin v 1 3 && isWithin k 1 2) && (match t, j, v, k with
  | .tuple ps, .bool _, .int v, .int k => ps.all (fun p => isPair p k v) && risingL ps
  | _, _, _, _ => false)
def isCase (d : PyData) : Bool := match d with
  | .tuple [n, v, k, t, j] => isCaseL n v k t j
  | _ => false
theorem list5 {α : Type} {xs : List α} (h : xs.length = 5) : ∃ a b c d e, xs = [a, b, c, d, e] := by
  match xs, h with
  | [a, b, c, d, e], _ => exact ⟨a, b, c, d, e, rfl⟩
theorem isCase_no {xs : List PyData} (h : xs.length ≠ 5) : isCase (.tuple xs) = false := by
  unfold isCase
  split
  · rename_i e
    cases e
    exact absurd rfl h
  · rfl
theorem within_int {d : PyData} {lo hi : Int} (h : isWithin d lo hi = true) : ∃ i, d = .int i ∧ lo ≤ i ∧ i ≤ hi := by
  cases d with
  | int i =>
    simp only [isWithin, Bool.and_eq_true, decide_eq_true_eq] at h
    exact ⟨i, rfl, h⟩
  | _ => cases h
theorem isPair_inv {d : PyData} {k v : Int} (h : isPair d k v = true) : ∃ a b : Int, d = tupI [a, b] ∧ 0 ≤ a ∧ a ≤ k - 1 ∧ 0 ≤ b ∧ b ≤ v - 1 := by
  unfold isPair at h
  split at h
  · rename_i x y
    rw [Bool.and_eq_true] at h
    obtain ⟨a, rfl, h1, h2⟩ := within_int h.1
    obtain ⟨b, rfl, h3, h4⟩ := within_int h.2
    exact ⟨a, b, rfl, h1, h2, h3, h4⟩
  · cases h
theorem pairs_alike {ps : List PyData} {k v : Int} (h : ps.all (fun p => isPair p k v) = true) : ∀ x ∈ ps, x ≠ .none ∧ x.depth ≤ 60 ∧ ∀ y ∈ ps, PySem.W.alike x y = true := by
  intro x hx
  obtain ⟨a, b, rfl, _⟩ := isPair_inv (List.all_eq_true.mp h x hx)
  refine ⟨(fun e => nomatch e), by simp [tupI, PyData.depth, PyData.depthAll], fun y hy => ?_⟩
  obtain ⟨a', b', rfl, _⟩ := isPair_inv (List.all_eq_true.mp h y hy)
  rfl
def lenOk (d : PyData) : Prop := ∀ a b c ps j, d = .tuple [a, b, c, .tuple ps, j] → ps.length ≤ 100000
def sp_is_case : SpD := fun ds M Q => ∃ d, ds = [.d d] ∧ lenOk d ∧ Q (.d (.bool (isCase d))) M
def caseD (n v k : Int) (ps : List (List Int)) (j : Bool) : PyData := .tuple [.int n, .int v, .int k, .tuple (ps.map tupI), .bool j]
def PairsOk (k v : Int) (ps : List (List Int)) : Prop := ps.length ≤ 60 ∧ ∀ p ∈ ps, ∃ a b : Int, p = [a, b] ∧ 0 ≤ a ∧ a < k ∧ 0 ≤ b ∧ b < v
def passV (ps : List (List Int)) (i : Int) : Bool := ps.any fun p => p.getD 1 0 == i
def sp_value_passes : SpD := fun ds M Q => ∃ n v k ps j i, ds = [.d (caseD n v k ps j), .d (.int i)] ∧ PairsOk k v ps ∧ Q (.d (.bool (passV ps i))) M
def passP (ps : List (List Int)) (c i : Int) : Bool := ps.any fun p => PyData.eqv (tupI p) (tupI [c, i])
theorem lay_ints (p : List Int) : PyData.canLayAll0 (p.map .int) = true ∧ PyData.depthAll (p.map .int) = 0 := by
  induction p with
  | nil => exact ⟨rfl, rfl⟩
  | cons b p ih => simp only [List.map_cons, PyData.canLayAll0, PyData.canLay0, PyData.depthAll, PyData.depth, ih.1, ih.2]; exact ⟨rfl, rfl⟩
theorem shaped_tupI (p : List Int) : SeqAt.shaped (tupI p) = true := by
  unfold SeqAt.shaped tupI
  simp only [PyData.canLay0, PyData.depth, (lay_ints p).1, (lay_ints p).2]
  rfl
theorem shaped_tups (ps : List (List Int)) : PyData.canLayAll0 (ps.map tupI) = true ∧ PyData.depthAll (ps.map tupI) ≤ 1 := by
  induction ps with
  | nil => exact ⟨rfl, by simp [PyData.depthAll]⟩
  | cons p ps ih =>
    have hc : (tupI p).canLay0 = true := by unfold tupI; simp only [PyData.canLay0, (lay_ints p).1]
    have hd : (tupI p).depth = 1 := by unfold tupI; simp only [PyData.depth, (lay_ints p).2]
    simp only [List.map_cons, PyData.canLayAll0, PyData.depthAll, hc, hd, ih.1]
    exact ⟨rfl, by have := ih.2; omega⟩
theorem shapedT_tups (ps : List (List Int)) : SeqAt.shaped (.tuple (ps.map tupI)) = true := by
  obtain ⟨h1, h2⟩ := shaped_tups ps
  unfold SeqAt.shaped
  simp only [PyData.canLay0, PyData.depth, h1, Bool.true_and]
  exact decide_eq_true (by omega)
theorem shapedL_tups (ps : List (List Int)) : SeqAt.shaped (.list (ps.map tupI)) = true := by
  obtain ⟨h1, h2⟩ := shaped_tups ps
  unfold SeqAt.shaped
  simp only [PyData.canLay0, PyData.depth, h1, Bool.true_and]
  exact decide_eq_true (by omega)
def sp_pair_passes : SpD := fun ds M Q => ∃ n v k ps j c i, ds = [.d (caseD n v k ps j), .d (.int c), .d (.int i)] ∧ Q (.d (.bool (passP ps c i))) M
def sp__law_open : SpD := fun ds M Q => ∃ ns, ds = [.s ns] ∧ ns.length ≤ 63 ∧ ∀ p mo, M p = none → PenMO 0 mo → Q (.r p) (mupd M p mo)
def spq__law_open : SpD := fun ds M Q => ∃ ns, ds = [.s ns] ∧ ∀ c p (cs : List Int), c ≠ p → M c = none → M p = none → Q (.r p) (mupd (mupd M c (.lst (cs.map fun i => .d (.int i)))) p (.lst [.r c, .d (.int 0), .d (.int 0)]))
def sp__law_spread : SpD := fun ds M Q => ∃ c a : Int, ds = [.d (.int c), .d (.int a)] ∧ 0 ≤ a ∧ a ≤ 1048576 ∧ ∀ r : Int, Q (.d (.int r)) M
def primesL : List PyData := [.int 2147483629, .int 2147483587, .int 2147483579, .int 2147483563, .int 2147483549, .int 2147483543, .int 2147483497, .int 2147483489, .int 2147483477, .int 2147483423, .int 2147483399, .int 2147483353, .int 2147483323]
theorem primes_ok {i : Int} (h0 : 0 ≤ i) (h1 : i < 13) : ∃ p : Int, L2.atI primesL i = some (.int p) ∧ 0 < p ∧ p < 2147483648 := primes_at primesL 13 (by decide) rfl h0 h1
def sp__law_take : SpD := fun ds M Q => ∃ a m n mo, ds = [.r a, .d (.int m)] ∧ M a = some mo ∧ PenMO n mo ∧ n < 1000000 ∧ 1 ≤ m ∧ m < 1073741824 ∧ ∀ r mo', 0 ≤ r → r < m → PenMO (n + 1) mo' → Q (.d (.int r)) (mupd M a mo')
def Samey : Nat → PyData → Prop
  | 0, _ => False
  | _ + 1, .none => True
  | _ + 1, .bool _ => True
  | _ + 1, .int _ => True
  | _ + 1, .str _ => True
  | n + 1, .list xs => xs.length ≤ sizeLine ∧ ∀ x ∈ xs, Samey n x
  | n + 1, .tuple xs => xs.length ≤ sizeLine ∧ ∀ x ∈ xs, Samey n x
  | _ + 1, .dict _ => False
def sameR (n : Nat) (xs : List PyData) (r : PyData) : Prop := ∃ x, xs = [x, x] ∧ Samey n x ∧ r = .bool true
def spr__law_same (n : Nat) : SpD := spPure (sameR n)
def sp__law_same : SpD := spView (sameR 20)
theorem zip_self (f : PyData → PyData) : ∀ xs : List PyData, zipD xs xs = xs.map fun x => DV.d (.tuple [x, x])
  | [] => rfl
  | x :: xs => by simp [zipD, zip_self f xs]
theorem same_go {a b : DV} {x : PyData} {M : Mem} {Q : DQ} (ha : viewD M a = some x) (hb : viewD M b = some x) (hs : Samey 20 x) (k : Q (.d (.bool true)) M) : sp__law_same [a, b] M Q :=
  ⟨[x, x], .bool true, by simp [viewL, ha, hb], ⟨x, rfl, hs, rfl⟩, rfl, k⟩
theorem DFn.never {P : Program} {w : World} {K : PySem.W.Frag} {mg : Str → Option Value} {base : Heap} {k : Nat} {f : Addr} {fd : FuncData} {ps : List Str} {sp : SpD} (h : ∀ ds M Q, ¬ sp ds M Q) : DFn P w K mg base k f fd ps sp :=
  ⟨fun vs H Q E ⟨_, _, _, _, _, q, _⟩ => absurd q (h _ _ _), fun _ _ _ _ _ _ _ _ _ _ _ _ _ _ ⟨_, _, _, _, _, q, _⟩ => absurd q (h _ _ _)⟩
theorem take_go {a : Addr} {m : Int} {n : Nat} {mo : MO} {M : Mem} {Q : DQ} (hM : M a = some mo) (hp : PenMO n mo) (hn : n < 1000000) (h1 : 1 ≤ m) (h2 : m < 1073741824)
    (k : ∀ r mo', 0 ≤ r → r < m → PenMO (n + 1) mo' → Q (.d (.int r)) (mupd M a mo')) : sp__law_take [.r a, .d (.int m)] M Q := ⟨a, m, n, mo, rfl, hM, hp, hn, h1, h2, k⟩
theorem take_ite {c : Bool} {a : Addr} {m1 m2 : Int} {M : Mem} {Q : DQ} (h : ∀ m, m = m1 ∨ m = m2 → sp__law_take [.r a, .d (.int m)] M Q) : if c = true then sp__law_take [.r a, .d (.int m1)] M Q else sp__law_take [.r a, .d (.int m2)] M Q := by
  split
  · exact h _ (.inl rfl)
  · exact h _ (.inr rfl)
def sp__law_one_of : SpD := fun ds M Q => ∃ a n mo xs, ds = [.r a, .d (.list xs)] ∧ M a = some mo ∧ PenMO n mo ∧ n < 1000000 ∧ 1 ≤ xs.length ∧ xs.length < 1073741824 ∧ ∀ x ∈ xs, ∀ mo', PenMO (n + 1) mo' → Q (.d x) (mupd M a mo')
theorem one_go {a : Addr} {xs : List PyData} {n : Nat} {mo : MO} {M : Mem} {Q : DQ} (hM : M a = some mo) (hp : PenMO n mo) (hn : n < 1000000) (h1 : 1 ≤ xs.length) (h2 : xs.length < 1073741824)
    (k : ∀ x ∈ xs, ∀ mo', PenMO (n + 1) mo' → Q (.d x) (mupd M a mo')) : sp__law_one_of [.r a, .d (.list xs)] M Q := ⟨a, n, mo, xs, rfl, hM, hp, hn, h1, h2, k⟩
def sp__law_is_integer : SpD := fun ds M Q => ∃ d lo hi, ds = [.d d, .d (.int lo), .d (.int hi)] ∧ Q (.d (.bool (isWithin d lo hi))) M
def oddL : List PyData := [.none, .bool true, .bool false, .int 0, .int 1, .int (-1), .str "", .str "a", .tuple [], .list [], .dict [], .tuple [.int 0], .tuple [.int 0, .int 0], .list [.tuple []], .tuple [.tuple []], .int 99, .int 100000000000000000000]
theorem odd_nice : ∀ x ∈ oddL, Nice 100 2 70 x := by
  intro x hx
  refine nice_mk ?_
  have h : oddL.all (fun x => decide (wt x ≤ 100) && decide (x.depth ≤ 2) && fits 70 x) = true := by decide +kernel
  exact List.all_eq_true.mp h x hx
def sp__law_odd : SpD := fun ds M Q => ∃ a n mo, ds = [.r a] ∧ M a = some mo ∧ PenMO n mo ∧ n < 1000000 ∧ ∀ x mo', x ∈ oddL → PenMO (n + 1) mo' → Q (.d x) (mupd M a mo')
theorem odd_go {a : Addr} {n : Nat} {mo : MO} {M : Mem} {Q : DQ} (hM : M a = some mo) (hp : PenMO n mo) (hn : n < 1000000) (k : ∀ x mo', x ∈ oddL → PenMO (n + 1) mo' → Q (.d x) (mupd M a mo')) : sp__law_odd [.r a] M Q := ⟨a, n, mo, rfl, hM, hp, hn, k⟩
def spr__law_bent (n : Nat) : SpD := fun ds M Q => ∃ a x m mo W D B, ds = [.r a, .d x] ∧ M a = some mo ∧ PenMO m mo ∧ m + 10 * n ≤ 900000 ∧ Nice W D B x ∧ D < n ∧ 70 ≤ B ∧ W ≤ 100000 ∧
  ∀ y mo', Nice (2 * W + 200) (D + 3) (B + 11) y → PenMO (m + 10 * n) mo' → Q (.d y) (mupd M a mo')
def sp__law_bent : SpD := spr__law_bent 20
theorem log2_lt {n k : Nat} (h : n < 2 ^ k) (hk : 0 < k) : n.log2 < k := by
  rcases Nat.eq_zero_or_pos n with q | q
  · subst q; exact hk
  · exact (Nat.log2_lt (by omega)).mpr h
theorem bent_ints {B : Nat} {i : Int} (hB : 70 ≤ B) (h : i.natAbs.log2 < B) (W D : Nat) (hw : i.natAbs.log2 + 15 ≤ W) : Nice W D (B + 11) (.int (i + 1)) ∧ Nice W D (B + 11) (.int (i - 1)) ∧ Nice W D (B + 11) (.int (-i)) ∧ Nice W D (B + 11) (.int (i * 1000)) := by
  have hp : i.natAbs < 2 ^ (i.natAbs.log2 + 1) := lt_two_pow_of_log2_lt (Nat.lt_succ_self _)
  have e1 : 2 ^ (i.natAbs.log2 + 11) = 2 ^ (i.natAbs.log2 + 1) * 1024 := by rw [show i.natAbs.log2 + 11 = i.natAbs.log2 + 1 + 10 from rfl, Nat.pow_add]
  have h1 : 1 ≤ 2 ^ (i.natAbs.log2 + 1) := Nat.one_le_two_pow
  have key : ∀ j : Int, j.natAbs < 2 ^ (i.natAbs.log2 + 11) → Nice W D (B + 11) (.int j) := fun j hj => by
    have := log2_lt hj (by omega)
    exact ⟨by simp only [wt]; omega, Nat.zero_le _, by simp only [fits]; exact decide_eq_true (by omega)⟩
  rw [e1] at key
  generalize 2 ^ (i.natAbs.log2 + 1) = P at *
  exact ⟨key _ (by omega), key _ (by omega), key _ (by omega), key _ (by omega)⟩
theorem bent_go {a : Addr} {x : PyData} {m W D B : Nat} {mo : MO} {M : Mem} {Q : DQ} (hM : M a = some mo) (hp : PenMO m mo) (hm : m + 200 ≤ 900000) (hx : Nice W D B x) (hD : D < 20) (hB : 70 ≤ B) (hW : W ≤ 100000)
    (k : ∀ y mo', Nice (2 * W + 200) (D + 3) (B + 11) y → PenMO (m + 200) mo' → Q (.d y) (mupd M a mo')) : sp__law_bent [.r a, .d x] M Q := ⟨a, x, m, mo, W, D, B, rfl, hM, hp, hm, hx, hD, hB, hW, k⟩
theorem wtAll_set : ∀ {xs : List PyData} {i : Nat} {x0 y : PyData}, xs[i]? = some x0 → wtAll (xs.set i y) + wt x0 = wtAll xs + wt y
  | [], _, _, _, h => by simp at h
  | x :: xs, 0, x0, y, h => by
    simp at h
    subst h
    simp only [List.set_cons_zero, wtAll]
    omega
  | x :: xs, i + 1, x0, y, h => by
    have := wtAll_set (xs := xs) (i := i) (y := y) (by simpa using h)
    simp only [List.set_cons_succ, wtAll]
    omega
theorem bent_set {xs : List PyData} {i : Nat} {x0 y : PyData} {W D B D' B' : Nat} (h : xs[i]? = some x0) (hn : NiceL W D B xs) (hy : Nice (2 * wt x0 + 200) D' B' y) (hd : D ≤ D') (hb : B ≤ B') : NiceL (2 * W + 200) D' B' (xs.set i y) := by
  have h1 := wtAll_set (y := y) h
  have h2 := wtAll_mem (List.mem_of_getElem? h)
  have h3 := hn.w
  have h4 := hy.w
  have q : NiceL (W + (2 * wt x0 + 200) + 2) D' B' (xs.set i y) := NiceL.set hn.mono hy i
  exact ⟨by omega, q.d, q.f⟩
def sp__law_draw_test : SpD := fun ds M Q => ∃ a v k n mo, ds = [.r a, .d (.int v), .d (.int k)] ∧ 0 ≤ v ∧ v ≤ 3 ∧ 0 ≤ k ∧ k ≤ 3 ∧ M a = some mo ∧ PenMO n mo ∧ n + 20 < 1000000 ∧ ∀ ps mo', PairsOk k v ps → ps.length ≤ 9 → PenMO (n + 9) mo' → Q (.d (.tuple (ps.map tupI))) (mupd M a mo')
theorem draw_test_go {a : Addr} {v k : Int} {n : Nat} {mo : MO} {M : Mem} {Q : DQ} (h1 : 0 ≤ v) (h2 : v ≤ 3) (h3 : 0 ≤ k) (h4 : k ≤ 3) (hM : M a = some mo) (hp : PenMO n mo) (hn : n + 20 < 1000000)
    (q : ∀ ps mo', PairsOk k v ps → ps.length ≤ 9 → PenMO (n + 9) mo' → Q (.d (.tuple (ps.map tupI))) (mupd M a mo')) : sp__law_draw_test [.r a, .d (.int v), .d (.int k)] M Q := ⟨a, v, k, n, mo, rfl, h1, h2, h3, h4, hM, hp, hn, q⟩
def ShapesOk (ss : List (List Int)) : Prop := 1 ≤ ss.length ∧ ss.length < 1000 ∧ ∀ s ∈ ss, ∃ n v k : Int, s = [n, v, k] ∧ 1 ≤ n ∧ n ≤ 3 ∧ 1 ≤ v ∧ v ≤ 3 ∧ 1 ≤ k ∧ k ≤ 2
def sp__law_draw_case : SpD := fun ds M Q => ∃ a ss m mo, ds = [.r a, .d (.list (ss.map tupI))] ∧ ShapesOk ss ∧ M a = some mo ∧ PenMO m mo ∧ m + 30 < 1000000 ∧
  ∀ n v k ps j mo', 1 ≤ n → n ≤ 3 → 1 ≤ v → v ≤ 3 → 1 ≤ k → k ≤ 2 → PairsOk k v ps → ps.length ≤ 9 → PenMO (m + 11) mo' → Q (.d (caseD n v k ps j)) (mupd M a mo')
theorem draw_case_go {a : Addr} {ss : List (List Int)} {m : Nat} {mo : MO} {M : Mem} {Q : DQ} (hs : ShapesOk ss) (hM : M a = some mo) (hp : PenMO m mo) (hm : m + 30 < 1000000)
    (q : ∀ n v k ps j mo', 1 ≤ n → n ≤ 3 → 1 ≤ v → v ≤ 3 → 1 ≤ k → k ≤ 2 → PairsOk k v ps → ps.length ≤ 9 → PenMO (m + 11) mo' → Q (.d (caseD n v k ps j)) (mupd M a mo')) : sp__law_draw_case [.r a, .d (.list (ss.map tupI))] M Q := ⟨a, ss, m, mo, rfl, hs, hM, hp, hm, q⟩
def sp__law_value_ok : SpD := fun ds M Q => ∃ n v k ps j i, ds = [.d (caseD n v k ps j), .d (.int i)] ∧ PairsOk k v ps ∧ Q (.d (.bool (passV ps i))) M
def sp__law_is_case : SpD := fun ds M Q => ∃ d, ds = [.d d] ∧ wt d ≤ 1000 ∧ Q (.d (.bool (isCase d))) M
def In64 (p : List Int) : Prop := ∃ a b : Int, p = [a, b] ∧ 0 ≤ a ∧ a < 64 ∧ 0 ≤ b ∧ b < 64
theorem lex_int {a c : Int} (h : a ≠ c) (l m : List (Int ⊕ List Nat)) : PyProof.Rows.lexLt PyProof.Rows.itemOrd (.inl a :: l) (.inl c :: m) = decide (a < c) := by
  rw [PySem.W.lex_atom (by simpa using h), PySem.W.lex_one]
  rfl
theorem pair_lt64 {p q : List Int} (hp : In64 p) (hq : In64 q) : PySem.W.dataLt (tupI p) (tupI q) = decide (TS.code 64 p < TS.code 64 q) := by
  obtain ⟨a, b, rfl, a0, a1, b0, b1⟩ := hp
  obtain ⟨c, d, rfl, c0, c1, d0, d1⟩ := hq
  rw [code_pair, code_pair]
  show PyProof.Rows.lexLt PyProof.Rows.itemOrd (PySem.W.keyToks (tupI [a, b])) (PySem.W.keyToks (tupI [c, d])) = _
  have e : ∀ x y : Int, PySem.W.keyToks (tupI [x, y]) = [.inl 1, .inl x, .inl 1, .inl y, .inl 0] := fun x y => by simp [tupI, PySem.W.keyToks, PySem.W.keyToksAll]
  rw [e, e]
  by_cases hac : a = c
  · subst hac
    by_cases hbd : b = d
    · subst hbd
      have e1 : PyProof.Rows.lexLt PyProof.Rows.itemOrd [.inl 1, .inl a, .inl 1, .inl b, .inl 0] [.inl 1, .inl a, .inl 1, .inl b, .inl 0] = false := PyProof.Rows.lex_irrefl _
      rw [e1]
      simp
    · have e1 : PyProof.Rows.lexLt PyProof.Rows.itemOrd ([.inl 1, .inl a, .inl 1] ++ [.inl b, .inl 0]) ([.inl 1, .inl a, .inl 1] ++ [.inl d, .inl 0]) = _ := PySem.W.lex_pre _ _ _
      refine e1.trans ?_
      rw [lex_int hbd]
      apply decide_eq_decide.mpr
      omega
  · have e1 : PyProof.Rows.lexLt PyProof.Rows.itemOrd ([.inl 1] ++ [.inl a, .inl 1, .inl b, .inl 0]) ([.inl 1] ++ [.inl c, .inl 1, .inl d, .inl 0]) = _ := PySem.W.lex_pre _ _ _
    refine e1.trans ?_
    rw [lex_int hac]
    apply decide_eq_decide.mpr
    omega
theorem rising_pairs : ∀ {ks : List (List Int)}, (∀ k ∈ ks, In64 k) → (risingL (ks.map tupI) = true ↔ ks.Pairwise fun a b => TS.code 64 a < TS.code 64 b)
  | [], _ => ⟨fun _ => .nil, fun _ => rfl⟩
  | [x], _ => ⟨fun _ => List.pairwise_singleton _ _, fun _ => rfl⟩
  | x :: y :: r, h => by
    have ih := rising_pairs (ks := y :: r) fun k hk => h k (by simp [hk])
    have e : risingL ((x :: y :: r).map tupI) = (PySem.W.dataLt (tupI x) (tupI y) && risingL ((y :: r).map tupI)) := rfl
    rw [e, Bool.and_eq_true, ih, pair_lt64 (h x (by simp)) (h y (by simp)), decide_eq_true_eq]
    constructor
    · rintro ⟨h1, h2⟩
      refine .cons (fun z hz => ?_) h2
      rcases List.mem_cons.mp hz with rfl | hz
      · exact h1
      · exact Int.lt_trans h1 ((List.pairwise_cons.mp h2).1 z hz)
    · intro hp
      obtain ⟨h1, h2⟩ := List.pairwise_cons.mp hp
      exact ⟨h1 y (by simp), h2⟩
theorem code_inj {p q : List Int} (hp : In64 p) (hq : In64 q) (h : TS.code 64 p = TS.code 64 q) : p = q := by
  obtain ⟨a, b, rfl, a0, a1, b0, b1⟩ := hp
  obtain ⟨c, d, rfl, c0, c1, d0, d1⟩ := hq
  rw [code_pair, code_pair] at h
  have h1 : a = c := by omega
  have h2 : b = d := by omega
  rw [h1, h2]
theorem sorted_same : ∀ {xs ys : List (List Int)}, xs.Pairwise (fun a b => TS.code 64 a < TS.code 64 b) → ys.Pairwise (fun a b => TS.code 64 a < TS.code 64 b) → (∀ k, k ∈ xs ↔ k ∈ ys) → xs = ys
  | [], [], _, _, _ => rfl
  | [], y :: ys, _, _, h => by have := (h y).mpr (by simp); cases this
  | x :: xs, [], _, _, h => by have := (h x).mp (by simp); cases this
  | x :: xs, y :: ys, hx, hy, h => by
    obtain ⟨x1, x2⟩ := List.pairwise_cons.mp hx
    obtain ⟨y1, y2⟩ := List.pairwise_cons.mp hy
    have e : x = y := by
      rcases List.mem_cons.mp ((h x).mp (by simp)) with e | m
      · exact e
      · rcases List.mem_cons.mp ((h y).mpr (by simp)) with e | m'
        · exact e.symm
        · have a1 := y1 x m
          have a2 := x1 y m'
          omega
    subst e
    congr 1
    refine sorted_same x2 y2 fun k => ?_
    constructor
    · intro hk
      rcases List.mem_cons.mp ((h k).mp (by simp [hk])) with e | m
      · subst e; have := x1 k hk; omega
      · exact m
    · intro hk
      rcases List.mem_cons.mp ((h k).mpr (by simp [hk])) with e | m
      · subst e; have := y1 k hk; omega
      · exact m
theorem eqv_tupI (p q : List Int) : PyData.eqv (tupI p) (tupI q) = decide (p = q) := by
  unfold tupI
  simp only [PyData.eqv]
  induction p generalizing q with
  | nil => cases q <;> simp [PyData.eqvAll]
  | cons a p ih =>
    cases q with
    | nil => simp [PyData.eqvAll]
    | cons b q =>
      simp only [List.map_cons, PyData.eqvAll, ih q, PyData.eqv]
      by_cases h1 : a = b <;> by_cases h2 : p = q <;> simp [h1, h2]
theorem eqvAll_tups (ps qs : List (List Int)) : PyData.eqvAll (ps.map tupI) (qs.map tupI) = decide (ps = qs) := by
  induction ps generalizing qs with
  | nil => cases qs <;> simp [PyData.eqvAll]
  | cons a p ih =>
    cases qs with
    | nil => simp [PyData.eqvAll]
    | cons b q =>
      simp only [List.map_cons, PyData.eqvAll, ih q, eqv_tupI]
      by_cases h1 : a = b <;> by_cases h2 : p = q <;> simp [h1, h2]
theorem rising_set {ks zs : List (List Int)} (h : ∀ k ∈ ks, In64 k) (hz : ∀ k, k ∈ zs ↔ k ∈ ks) (nd : zs.Nodup) (pw : zs.Pairwise fun a b => TS.code 64 a ≤ TS.code 64 b) : PyData.eqv (.list (ks.map tupI)) (.list (zs.map tupI)) = risingL (ks.map tupI) := by
  simp only [PyData.eqv]
  rw [eqvAll_tups]
  have hzs : zs.Pairwise fun a b => TS.code 64 a < TS.code 64 b := by
    have := nd.and pw
    refine List.Pairwise.imp_of_mem (fun {a b} ha hb hab => ?_) this
    have ne : TS.code 64 a ≠ TS.code 64 b := fun e => hab.1 (code_inj (h a ((hz a).mp ha)) (h b ((hz b).mp hb)) e)
    have := hab.2
    omega
  apply Bool.eq_iff_iff.mpr
  rw [decide_eq_true_eq, rising_pairs h]
  constructor
  · rintro rfl; exact hzs
  · intro hk
    exact sorted_same hk hzs fun k => (hz k).symm
theorem pairs_ints {ps : List PyData} {k v : Int} (h : ∀ p ∈ ps, isPair p k v = true) (hk : k ≤ 64) (hv : v ≤ 64) : ∃ ks : List (List Int), ps = ks.map tupI ∧ ∀ p ∈ ks, In64 p := by
  induction ps with
  | nil => exact ⟨[], rfl, by simp⟩
  | cons p ps ih =>
    obtain ⟨ks, e, hks⟩ := ih fun q hq => h q (by simp [hq])
    obtain ⟨a, b, rfl, a0, a1, b0, b1⟩ := isPair_inv (h p (by simp))
    refine ⟨[a, b] :: ks, by rw [e]; rfl, fun q hq => ?_⟩
    rcases List.mem_cons.mp hq with rfl | hq
    · exact ⟨a, b, rfl, a0, by omega, b0, by omega⟩
    · exact hks q hq
theorem pair_wt {a b : Int} : 15 ≤ wt (tupI [a, b]) := by
  simp only [tupI, List.map, wt, wtAll]
  omega
theorem pairs_few {ks : List (List Int)} (h : ∀ p ∈ ks, In64 p) : 17 * ks.length ≤ wtAll (ks.map tupI) := by
  induction ks with
  | nil => simp
  | cons p ks ih =>
    have := ih fun q hq => h q (by simp [hq])
    obtain ⟨a, b, rfl, _⟩ := h p (by simp)
    have := pair_wt (a := a) (b := b)
    simp only [List.map_cons, wtAll, List.length_cons]
    omega
def sp__law_near : SpD := fun ds M Q => ∃ a n v k ps j m mo, ds = [.r a, .d (caseD n v k ps j)] ∧ 1 ≤ n ∧ n ≤ 3 ∧ 1 ≤ v ∧ v ≤ 3 ∧ 1 ≤ k ∧ k ≤ 2 ∧ PairsOk k v ps ∧ ps.length ≤ 9 ∧ M a = some mo ∧ PenMO m mo ∧ m + 300 ≤ 900000 ∧
  ∀ y mo', Nice 1000 6 100 y → PenMO (m + 300) mo' → Q (.d y) (mupd M a mo')
theorem near_go {a : Addr} {n v k : Int} {ps : List (List Int)} {j : Bool} {m : Nat} {mo : MO} {M : Mem} {Q : DQ} (h1 : 1 ≤ n) (h2 : n ≤ 3) (h3 : 1 ≤ v) (h4 : v ≤ 3) (h5 : 1 ≤ k) (h6 : k ≤ 2) (hp : PairsOk k v ps) (hl : ps.length ≤ 9) (hM : M a = some mo) (hpen : PenMO m mo) (hm : m + 300 ≤ 900000)
    (q : ∀ y mo', Nice 1000 6 100 y → PenMO (m + 300) mo' → Q (.d y) (mupd M a mo')) : sp__law_near [.r a, .d (caseD n v k ps j)] M Q := ⟨a, n, v, k, ps, j, m, mo, rfl, h1, h2, h3, h4, h5, h6, hp, hl, hM, hpen, hm, q⟩
theorem nice_tiny {i : Int} (h0 : -4 < i) (h1 : i < 4) : Nice 5 0 10 (.int i) := by
  have h : i.natAbs < 2 ^ 2 := by omega
  have := log2_lt h (by omega)
  exact ⟨by simp only [wt]; omega, Nat.zero_le _, by simp only [fits]; exact decide_eq_true (by omega)⟩
theorem nice_pair {a b : Int} (h0 : -4 < a) (h1 : a < 4) (h2 : -4 < b) (h3 : b < 4) : Nice 17 1 10 (tupI [a, b]) := by
  have q := nice_tuple (niceL_cons (nice_tiny h0 h1) (niceL_cons (nice_tiny h2 h3) (niceL_nil (W := 0) (D := 0) (B := 10))))
  exact q
theorem nice_pairs {k v : Int} {ps : List (List Int)} (hk : k ≤ 3) (hv : v ≤ 3) (h : ∀ p ∈ ps, ∃ a b : Int, p = [a, b] ∧ 0 ≤ a ∧ a < k ∧ 0 ≤ b ∧ b < v) : NiceL (19 * ps.length) 1 10 (ps.map tupI) := by
  induction ps with
  | nil => exact niceL_nil
  | cons p ps ih =>
    obtain ⟨a, b, rfl, a0, a1, b0, b1⟩ := h p (by simp)
    have := niceL_cons (nice_pair (a := a) (b := b) (by omega) (by omega) (by omega) (by omega)) (ih fun q hq => h q (by simp [hq]))
    exact this.mono (by simp; omega)
theorem nice_case {n v k : Int} {ps : List (List Int)} {j : Bool} (h1 : 1 ≤ n) (h2 : n ≤ 3) (h3 : 1 ≤ v) (h4 : v ≤ 3) (h5 : 1 ≤ k) (h6 : k ≤ 2) (hp : PairsOk k v ps) (hl : ps.length ≤ 9) : Nice 210 3 70 (caseD n v k ps j) := by
  have ht := (nice_tuple (nice_pairs (by omega) h4 hp.2)).mono (W' := 174) (D' := 2) (B' := 10)
  have q := nice_tuple (niceL_cons ((nice_tiny (i := n) (by omega) (by omega)).mono (W' := 5) (D' := 2) (B' := 10)) (niceL_cons ((nice_tiny (i := v) (by omega) (by omega)).mono (W' := 5) (D' := 2) (B' := 10)) (niceL_cons ((nice_tiny (i := k) (by omega) (by omega)).mono (W' := 5) (D' := 2) (B' := 10)) (niceL_cons ht (niceL_cons (nice_bool (b := j) (W := 5) (D := 2) (B := 10)) (niceL_nil (W := 0) (D := 2) (B := 10)))))))
  exact q.mono
theorem niceL_all {W D B : Nat} : ∀ {qs : List PyData}, (∀ z ∈ qs, Nice W D B z) → NiceL (qs.length * (W + 2)) D B qs
  | [], _ => niceL_nil
  | q :: qs, h => by
    have := niceL_cons (h q (by simp)) (niceL_all (qs := qs) fun z hz => h z (by simp [hz]))
    exact this.mono (by rw [List.length_cons, Nat.add_mul]; omega)
def sp_law : SpD := spLaw 63
def shapes01 : List (List Int) := [[1, 2, 1], [2, 2, 1], [2, 3, 2], [3, 3, 2], [3, 1, 1], [1, 3, 2]]
theorem shapes01_ok : ShapesOk shapes01 := by
  refine ⟨by decide, by decide, fun s hs => ?_⟩
  simp only [shapes01, List.mem_cons, List.not_mem_nil, or_false] at hs
  rcases hs with rfl | rfl | rfl | rfl | rfl | rfl <;> exact ⟨_, _, _, rfl, by decide, by decide, by decide, by decide, by decide, by decide⟩
theorem lenOk_nice {W D B : Nat} {z : PyData} (h : Nice W D B z) (hW : W ≤ 100000) : lenOk z := by
  rintro a b c ps j rfl
  have hw := h.w
  simp only [wt, wtAll] at hw
  have : ∀ l : List PyData, 2 * l.length ≤ wtAll l := by
    intro l
    induction l with
    | nil => simp
    | cons y ys ih => simp only [wtAll, List.length_cons]; omega
  have := this ps
  omega
section
variable {P : Program} {w : World} {K : PySem.W.Frag} {mg : Str → Option Value} {base : Heap}
abbrev s_is_integer : Stmt := top 4
abbrev n_is_integer : List Str := ["value"]
abbrev p_is_integer : List Str := ["value"]
theorem sc_is_integer : FnScope n_is_integer p_is_integer (defScope s_is_integer) := ⟨rfl, rfl, rfl, by decide +kernel, rfl, by decide +kernel, by decide +kernel⟩
theorem ok_is_integer {f fd} (F : Fun K "is_integer" "is_integer" s_is_integer f fd) (T : Txt K mg) : DFn P w K mg base 1 f fd p_is_integer sp_is_integer := by
  refine fun_okD F sc_is_integer (fun ds M Q h => ?_) fun cdv A outer s H E hr hgd ds M Q h => ?_
  · obtain ⟨d, rfl, _⟩ := h; rfl
  · obtain ⟨d, rfl, k⟩ := h
    have hu := room64 hr
    have hu5 := room65 hr
    refine ⟨_, (dss_one (ds_ret (de_and (de_isi (t := .int) rfl T.b_isinstance rfl T.b_int (by decide +kernel) (dv 0)) (de_one (de_not (de_isi (t := .bool) rfl T.b_isinstance rfl T.b_bool (by decide +kernel) (dv 0))))))), ?_⟩
    walk_at "dl"
    cases d <;> exact k
abbrev s_is_within : Stmt := top 5
abbrev n_is_within : List Str := ["value", "low", "high"]
abbrev p_is_within : List Str := ["value", "low", "high"]
theorem sc_is_within : FnScope n_is_within p_is_within (defScope s_is_within) := ⟨rfl, rfl, rfl, by decide +kernel, rfl, by decide +kernel, by decide +kernel⟩
theorem ok_is_within {f fd} (F : Fun K "is_within" "is_within" s_is_within f fd) (T : Txt K mg) (c_is_integer : Callee P w K mg base "is_integer" 1 p_is_integer sp_is_integer) : DFn P w K mg base 2 f fd p_is_within sp_is_within := by
  refine fun_okD F sc_is_within (fun ds M Q h => ?_) fun cdv A outer s H E hr hgd ds M Q h => ?_
  · obtain ⟨d, lo, hi, rfl, _⟩ := h; rfl
  · obtain ⟨d, lo, hi, rfl, k⟩ := h
    have hu := room64 hr
    have hu5 := room65 hr
    refine ⟨_, (dss_one (ds_ret (de_and (de_call c_is_integer hr hgd (da_cons (dv 0) da_nil)) (de_one (de_chain od_le od_le (dv 1) (dv 0) (dv 2)))))), ?_⟩
    walk_at "dl"
    refine ⟨_, rfl, ?_⟩
    cases d <;> simp only [isInt, isWithin, bOf, if_true, if_false, Bool.false_eq_true] at k ⊢ <;> first | exact k | skip
    rename_i i
    walk_at "dl"
    by_cases h1 : lo ≤ i
    · simp only [h1, decide_true, if_true, Bool.true_and] at k ⊢; exact k
    · simp only [h1, decide_false, if_false, Bool.false_and, Bool.false_eq_true] at k ⊢; exact k
abbrev s_is_pair : Stmt := top 6
abbrev n_is_pair : List Str := ["value", "kinds", "values"]
abbrev p_is_pair : List Str := ["value", "kinds", "values"]
theorem sc_is_pair : FnScope n_is_pair p_is_pair (defScope s_is_pair) := ⟨rfl, rfl, rfl, by decide +kernel, rfl, by decide +kernel, by decide +kernel⟩
theorem ok_is_pair {f fd} (F : Fun K "is_pair" "is_pair" s_is_pair f fd) (T : Txt K mg) (c_is_within : Callee P w K mg base "is_within" 2 p_is_within sp_is_within) : DFn P w K mg base 3 f fd p_is_pair sp_is_pair := by
  refine fun_okD F sc_is_pair (fun ds M Q h => ?_) fun cdv A outer s H E hr hgd ds M Q h => ?_
  · obtain ⟨d, kk, v, rfl, _⟩ := h; rfl
  · obtain ⟨d, kk, v, rfl, k⟩ := h
    have hu := room64 hr
    have hu5 := room65 hr
    refine ⟨_, (dss_cons (ds_if (dt_w (dw_or (dt_not (dt_val (de_isi (t := .tuple) rfl T.b_isinstance rfl T.b_tuple (by decide +kernel) (dv 0)))) (dw_or1 (dt_rel (od_ne hu) (de_callB cd_len rfl T.b_len (by decide +kernel) (da_cons (dv 0) da_nil)) de_int)))) (dss_one (ds_ret de_bl)) dss_nil)
      (dss_one (ds_ret (de_and (de_call c_is_within hr hgd (da_cons (de_ix (dv 0) de_int) (da_cons de_int (da_cons (de_bin od_sub (dv 1) de_int) da_nil)))) (de_one (de_call c_is_within hr hgd (da_cons (de_ix (dv 0) de_int) (da_cons de_int (da_cons (de_bin od_sub (dv 2) de_int) da_nil))))))))), ?_⟩
    walk_at "dl"
    cases d with
    | tuple xs =>
      walk_at "dl"
      by_cases hl : xs.length = 2
      · obtain ⟨a, b, rfl⟩ := list2 hl
        walk_at "dl"
        rw [if_neg (by decide)]
        refine ⟨a, 0, kk - 1, rfl, ?_⟩
        simp only [isPair] at k
        cases h0 : isWithin a 0 (kk - 1) <;> simp only [h0, Bool.false_and, Bool.true_and] at k <;> walk_at "dl"
        · exact k
        exact ⟨b, 0, v - 1, rfl, k⟩
      · have e : ((xs.length : Int) == 2) = false := by
          have : (xs.length : Int) ≠ 2 := by omega
          simpa using this
        rw [e]
        rw [isPair_no hl] at k
        exact k
    | _ => walk_at "dl"; exact k
abbrev s_is_rising : Stmt := top 7
abbrev n_is_rising : List Str := ["value", "one", "other"]
abbrev p_is_rising : List Str := ["value"]
theorem sc_is_rising : FnScope n_is_rising p_is_rising (defScope s_is_rising) := ⟨rfl, rfl, rfl, by decide +kernel, rfl, by decide +kernel, by decide +kernel⟩
theorem ok_is_rising {f fd} (F : Fun K "is_rising" "is_rising" s_is_rising f fd) (T : Txt K mg) : DFn P w K mg base 1 f fd p_is_rising sp_is_rising := by
  refine fun_okD F sc_is_rising (fun ds M Q h => ?_) fun cdv A outer s H E hr hgd ds M Q h => ?_
  · obtain ⟨xs, rfl, hl, hx, _⟩ := h; rfl
  · obtain ⟨xs, rfl, hl, hx, k⟩ := h
    have hu := room64 hr
    have hu5 := room65 hr
    refine ⟨_, (dss_one (ds_ret (de_callB (cd_all rfl) rfl T.b_all (by decide +kernel) (da_cons (de_lc (fin := finF) finF_ok rfl sc_is_rising.nd (di_zipS rfl T.b_zip (da_cons (dv 0) (da_cons (de_slice (dv 0) (do_some de_int) do_none) da_nil))) (blkOk_by (own := [("one", 1), ("other", 2)]) (N := n_is_rising) (sc := defScope s_is_rising) (by decide +kernel)) (gsim_tup (n := 2) (gssim_cons (gsim_name (i := 1) (by decide)) (gssim_cons (gsim_name (i := 2) (by decide)) gssim_nil))) (fun _ _ _ _ _ => pg_tup (n := 2) rfl (pgs_cons (pg_name (i := 1) sc_is_rising.nd rfl (by first | exact Or.inl rfl | exact Or.inr rfl)) (pgs_cons (pg_name (i := 2) sc_is_rising.nd rfl (by first | exact Or.inl rfl | exact Or.inr rfl)) pgs_nil))) (fun _ _ _ _ _ => dts_nil) (fun _ _ _ _ _ => (de_rel (od_ltA hu) (dv 1) (dv 2)))) da_nil)))), ?_⟩
    walk_at "dl"
    refine lc_bools (zipD xs (xs.drop 1)) ltPair (fun R h => ?_) (by rw [zipD_length]; have : min xs.length (xs.drop 1).length ≤ xs.length := Nat.min_le_left _ _; omega) (fun z hz M' _ Q' q => ?_) ?_
    · walk_at "dl"
      exact h
    · obtain ⟨x, y, rfl, h1, h2⟩ := zip_mem hz
      have h2' : y ∈ xs := List.mem_of_mem_drop h2
      walk_at "dl"
      exact ⟨(hx x h1).2.2 y h2', (hx x h1).1, (hx x h1).2.1, q⟩
    · show allQ (fun bs => bs.all fun b => b) [.d (.list (((zipD xs (xs.drop 1)).map ltPair).map .bool))] M Q
      rw [allQ_e1, allB_map, optD_e1, rising_zip]
      exact k
abbrev s_is_case : Stmt := top 8
abbrev n_is_case : List Str := ["value", "n", "values", "kinds", "test", "joint", "pair"]
abbrev p_is_case : List Str := ["value"]
theorem sc_is_case : FnScope n_is_case p_is_case (defScope s_is_case) := ⟨rfl, rfl, rfl, by decide +kernel, rfl, by decide +kernel, by decide +kernel⟩
theorem ok_is_case {f fd} (F : Fun K "is_case" "is_case" s_is_case f fd) (T : Txt K mg) (c_is_pair : Callee P w K mg base "is_pair" 3 p_is_pair sp_is_pair) (c_is_rising : Callee P w K mg base "is_rising" 1 p_is_rising sp_is_rising) (c_is_within : Callee P w K mg base "is_within" 2 p_is_within sp_is_within) : DFn P w K mg base 4 f fd p_is_case sp_is_case := by
  refine fun_okD F sc_is_case (fun ds M Q h => ?_) fun cdv A outer s H E hr hgd ds M Q h => ?_
  · obtain ⟨d, rfl, hlo, _⟩ := h; rfl
  · obtain ⟨d, rfl, hlo, k⟩ := h
    have hu := room64 hr
    have hu5 := room65 hr
    refine ⟨_, (dss_cons (ds_if (dt_w (dw_or (dt_not (dt_val (de_isi (t := .tuple) rfl T.b_isinstance rfl T.b_tuple (by decide +kernel) (dv 0)))) (dw_or (dt_rel (od_ne hu) (de_callB cd_len rfl T.b_len (by decide +kernel) (da_cons (dv 0) da_nil)) de_int) (dw_or1 (dt_not (dt_val (de_call c_is_within hr hgd (da_cons (de_ix (dv 0) de_int) (da_cons de_int (da_cons (de_gi rfl T.g_MOST_PARENTS) da_nil)))))))))) (dss_one (ds_ret de_bl)) dss_nil)
      (dss_cons (ds_asg (dv 0) (dg_tup (n := 5) rfl (dgs_cons (dg_name (i := 1) (vs := [1, 2, 3, 4, 5]) sc_is_case.nd rfl (by first | exact Or.inl rfl | exact Or.inr rfl) (by decide)) (dgs_cons (dg_name (i := 2) (vs := [1, 2, 3, 4, 5]) sc_is_case.nd rfl (by first | exact Or.inl rfl | exact Or.inr rfl) (by decide)) (dgs_cons (dg_name (i := 3) (vs := [1, 2, 3, 4, 5]) sc_is_case.nd rfl (by first | exact Or.inl rfl | exact Or.inr rfl) (by decide)) (dgs_cons (dg_name (i := 4) (vs := [1, 2, 3, 4, 5]) sc_is_case.nd rfl (by first | exact Or.inl rfl | exact Or.inr rfl) (by decide)) (dgs_cons (dg_name (i := 5) (vs := [1, 2, 3, 4, 5]) sc_is_case.nd rfl (by first | exact Or.inl rfl | exact Or.inr rfl) (by decide)) dgs_nil)))))))
      (dss_cons (ds_if (dt_w (dw_or (dt_not (dt_val (de_call c_is_within hr hgd (da_cons (dv 2) (da_cons de_int (da_cons (de_gi rfl T.g_MOST_VALUES) da_nil)))))) (dw_or1 (dt_not (dt_val (de_call c_is_within hr hgd (da_cons (dv 3) (da_cons de_int (da_cons (de_gi rfl T.g_MOST_KINDS) da_nil))))))))) (dss_one (ds_ret de_bl)) dss_nil)
      (dss_cons (ds_if (dt_w (dw_or (dt_not (dt_val (de_isi (t := .tuple) rfl T.b_isinstance rfl T.b_tuple (by decide +kernel) (dv 4)))) (dw_or1 (dt_not (dt_val (de_isi (t := .bool) rfl T.b_isinstance rfl T.b_bool (by decide +kernel) (dv 5))))))) (dss_one (ds_ret de_bl)) dss_nil)
      (dss_one (ds_ret (de_and (de_callB (cd_all rfl) rfl T.b_all (by decide +kernel) (da_cons (de_lc (fin := finF) finF_ok rfl sc_is_case.nd (di_seq (dv 4)) (blkOk_by (own := [("pair", 6)]) (N := n_is_case) (sc := defScope s_is_case) (by decide +kernel)) (gsim_name (i := 6) (by decide)) (fun _ _ _ _ _ => pg_name (i := 6) sc_is_case.nd rfl (by first | exact Or.inl rfl | exact Or.inr rfl)) (fun _ _ _ _ _ => dts_nil) (fun _ _ _ _ _ => (de_call c_is_pair hr hgd (da_cons (dv 6) (da_cons (dv 3) (da_cons (dv 2) da_nil)))))) da_nil)) (de_one (de_call c_is_rising hr hgd (da_cons (dv 4) da_nil)))))))))), ?_⟩
    walk_at "dl"
    cases d with
    | tuple xs =>
      walk_at "dl"
      by_cases hl : xs.length = 5
      · obtain ⟨n, v, kd, t, j, rfl⟩ := list5 hl
        walk_at "dl"
        rw [if_neg (by decide)]
        simp only [isCase, isCaseL] at k
        refine ⟨n, 1, 3, rfl, ?_⟩
        cases h0 : isWithin n 1 3 <;> simp only [h0, Bool.false_and, Bool.true_and] at k <;> walk_at "dl"
        · exact k
        refine ⟨v, 1, 3, rfl, ?_⟩
        cases h1 : isWithin v 1 3 <;> simp only [h1, Bool.false_and, Bool.true_and] at k <;> walk_at "dl"
        · exact k
        refine ⟨kd, 1, 2, rfl, ?_⟩
        cases h2 : isWithin kd 1 2 <;> simp only [h2, Bool.false_and, Bool.true_and] at k <;> walk_at "dl"
        · exact k
        obtain ⟨v, rfl, v1, v2⟩ := within_int h1
        obtain ⟨kd, rfl, k1, k2⟩ := within_int h2
        cases t with
        | tuple ps =>
          walk_at "dl"
          cases j with
          | bool j =>
            walk_at "dl"
            simp only at k
            refine lc_bools (ps.map .d) (fun z => match z with | .d p => isPair p kd v | _ => false) (fun R h => ?_) (by rw [List.length_map]; exact list_len (Nat.le_trans (hlo _ _ _ _ _ rfl) (by decide))) (fun z hz M' _ Q' q => ?_) ?_
            · walk_at "dl"
              exact h
            · obtain ⟨p, hp, rfl⟩ := List.mem_map.mp hz
              walk_at "dl"
              exact ⟨p, kd, v, rfl, q⟩
            · rw [show ((ps.map DV.d).map fun z => match z with | DV.d p => isPair p kd v | _ => false) = ps.map (fun p => isPair p kd v) from by rw [List.map_map]; rfl]
              show allQ (fun bs => bs.all fun b => b) [.d (.list ((ps.map fun p => isPair p kd v).map .bool))] M _
              rw [allQ_e1, allB_map, optD_e1]
              have e : ((ps.map fun p => isPair p kd v).all fun b => b) = ps.all fun p => isPair p kd v := by rw [List.all_map]; rfl
              rw [e]
              cases ha : ps.all (fun p => isPair p kd v) <;> simp only [ha, Bool.false_and, Bool.true_and] at k <;> walk_at "dl"
              · exact k
              · exact ⟨ps, rfl, list_len (Nat.le_trans (hlo _ _ _ _ _ rfl) (by decide)), pairs_alike ha, k⟩
          | _ => walk_at "dl"; exact k
        | _ => walk_at "dl"; simp only at k; exact k
      · have e : ((xs.length : Int) == 5) = false := by
          have : (xs.length : Int) ≠ 5 := by omega
          simpa using this
        rw [e]
        rw [isCase_no hl] at k
        exact k
    | _ => walk_at "dl"; exact k
abbrev s_value_passes : Stmt := top 9
abbrev n_value_passes : List Str := ["case", "value", "pair"]
abbrev p_value_passes : List Str := ["case", "value"]
theorem sc_value_passes : FnScope n_value_passes p_value_passes (defScope s_value_passes) := ⟨rfl, rfl, rfl, by decide +kernel, rfl, by decide +kernel, by decide +kernel⟩
theorem ok_value_passes {f fd} (F : Fun K "value_passes" "value_passes" s_value_passes f fd) (T : Txt K mg) : DFn P w K mg base 1 f fd p_value_passes sp_value_passes := by
  refine fun_okD F sc_value_passes (fun ds M Q h => ?_) fun cdv A outer s H E hr hgd ds M Q h => ?_
  · obtain ⟨n, v, kd, ps, j, i, rfl, ⟨hl, hp⟩, _⟩ := h; rfl
  · obtain ⟨n, v, kd, ps, j, i, rfl, ⟨hl, hp⟩, k⟩ := h
    have hu := room64 hr
    have hu5 := room65 hr
    refine ⟨_, (dss_one (ds_ret (de_callB (cd_any rfl) rfl T.b_any (by decide +kernel) (da_cons (de_lc (fin := finF) finF_ok rfl sc_value_passes.nd (di_seq (de_ix (dv 0) de_int)) (blkOk_by (own := [("pair", 2)]) (N := n_value_passes) (sc := defScope s_value_passes) (by decide +kernel)) (gsim_name (i := 2) (by decide)) (fun _ _ _ _ _ => pg_name (i := 2) sc_value_passes.nd rfl (by first | exact Or.inl rfl | exact Or.inr rfl)) (fun _ _ _ _ _ => dts_nil) (fun _ _ _ _ _ => (de_rel (od_eq hu) (de_ix (dv 2) de_int) (dv 1)))) da_nil)))), ?_⟩
    walk_at "dl"
    refine lc_bools ((ps.map tupI).map .d) (fun z => match z with | .d (.tuple [_, .int b]) => b == i | _ => false) (fun R h => ?_) (by rw [List.length_map, List.length_map]; exact list_len (by omega)) (fun z hz M' _ Q' q => ?_) ?_
    · unfold caseD
      walk_at "dl"
      exact h
    · obtain ⟨y, hy, rfl⟩ := List.mem_map.mp hz
      obtain ⟨p, hpm, rfl⟩ := List.mem_map.mp hy
      obtain ⟨a, b, rfl, _⟩ := hp p hpm
      unfold tupI
      walk_at "dl"
      exact q
    · rw [show (((ps.map tupI).map DV.d).map fun z => match z with | DV.d (.tuple [_, .int b]) => b == i | _ => false) = ps.map (fun p => p.getD 1 0 == i) from by
        rw [List.map_map, List.map_map]
        refine List.map_congr_left fun p hpm => ?_
        obtain ⟨a, b, rfl, _⟩ := hp p hpm
        rfl]
      show allQ (fun bs => bs.any fun b => b) [.d (.list ((ps.map fun p => p.getD 1 0 == i).map .bool))] M _
      rw [allQ_e1, allB_map, optD_e1, List.any_map]
      exact k
abbrev s_pair_passes : Stmt := top 10
abbrev n_pair_passes : List Str := ["case", "kind", "value"]
abbrev p_pair_passes : List Str := ["case", "kind", "value"]
theorem sc_pair_passes : FnScope n_pair_passes p_pair_passes (defScope s_pair_passes) := ⟨rfl, rfl, rfl, by decide +kernel, rfl, by decide +kernel, by decide +kernel⟩
theorem ok_pair_passes {f fd} (F : Fun K "pair_passes" "pair_passes" s_pair_passes f fd) (T : Txt K mg) : DFn P w K mg base 1 f fd p_pair_passes sp_pair_passes := by
  refine fun_okD F sc_pair_passes (fun ds M Q h => ?_) fun cdv A outer s H E hr hgd ds M Q h => ?_
  · obtain ⟨n, v, kd, ps, j, c, i, rfl, _⟩ := h; rfl
  · obtain ⟨n, v, kd, ps, j, c, i, rfl, k⟩ := h
    have hu := room64 hr
    have hu5 := room65 hr
    refine ⟨_, (dss_one (ds_ret (de_rel (od_in hu5) (de_tup (da_cons (dv 1) (da_cons (dv 2) da_nil))) (de_ix (dv 0) de_int)))), ?_⟩
    unfold caseD
    walk_at "dl"
    refine ⟨list_len (n := 2) (by decide), shaped_tupI [c, i], shapedT_tups ps, ?_⟩
    unfold passP at k
    rw [List.any_map]
    exact k
abbrev s__law_open : Stmt := top 12
abbrev n__law_open : List Str := ["script", "cells", "k", "cell"]
abbrev p__law_open : List Str := ["script"]
theorem sc__law_open : FnScope n__law_open p__law_open (defScope s__law_open) := ⟨rfl, rfl, rfl, by decide +kernel, rfl, by decide +kernel, by decide +kernel⟩
theorem ok__law_open {f fd} (F : Fun K "_law_open" "_law_open" s__law_open f fd) (T : Txt K mg) : DFn P w K mg base 1 f fd p__law_open spq__law_open := by
  refine fun_okD F sc__law_open (fun ds M Q h => ?_) fun cdv A outer s H E hr hgd ds M Q h => ?_
  · obtain ⟨ns, rfl, _⟩ := h; rfl
  · obtain ⟨ns, rfl, k⟩ := h
    have hu := room64 hr
    have hu5 := room65 hr
    refine ⟨_, (dss_cons (ds_set (i := 1) sc__law_open.nd rfl (by first | exact Or.inl rfl | exact Or.inr rfl) (de_callTy cd_listM rfl T.b_list (by decide +kernel) (da_cons (de_slice (dv 0) do_none (do_some de_int)) da_nil)))
      (dss_cons (ds_for PassesOwn.never rfl (di_enum rfl T.b_enumerate (da_cons (de_slice (dv 0) (do_some de_int) (do_some de_int)) da_nil)) (dg_tup (n := 2) rfl (dgs_cons (dg_name (i := 2) (vs := [2, 3]) sc__law_open.nd rfl (by first | exact Or.inl rfl | exact Or.inr rfl) (by decide)) (dgs_cons (dg_name (i := 3) (vs := [2, 3]) sc__law_open.nd rfl (by first | exact Or.inl rfl | exact Or.inr rfl) (by decide)) dgs_nil))) (dss_one (ds_setIx (de_bin od_add (de_ix (dv 1) (de_bin od_mod (de_callTy cd_int rfl T.b_int (by decide +kernel) (da_cons (dv 2) da_nil)) de_int)) (dv 3)) (dv 1) (de_bin od_mod (de_callTy cd_int rfl T.b_int (by decide +kernel) (da_cons (dv 2) da_nil)) de_int))))
      (dss_one (ds_ret (de_lstM (da_cons (dv 1) (da_cons de_int (da_cons de_int da_nil)))))))), ?_⟩
    walk_at "dl"
    intro c hc
    refine loopD_ind (fun l δ M' => ∃ (n : Nat) (vs : List Int) (k v : Option DV) (cs : List Int), l = enumD n (vs.map .int) ∧ δ = [some (.s ns), some (.r c), k, v] ∧ M' = mupd M c (.lst (cs.map fun i => .d (.int i))) ∧ (vs ≠ [] → cs.length = 12)) (fun _ _ _ _ => trivial) ?_ ?_ _ _ _
      ⟨0, (ns.drop 12).take (63 - 12), none, none, ns.take 12, by rw [List.map_take, List.map_drop], rfl, by rw [List.map_map]; rfl, fun hv => ?_⟩
    · rintro δ M' ⟨n, vs, kk, v, cs, _, rfl, rfl, _⟩
      walk_at "dl"
      refine ⟨list_len (by decide), fun p hp => k c p cs ?_ hc (mupd_none hc p hp)⟩
      rintro rfl
      rw [mupd_same] at hp
      cases hp
    · rintro x l δ M' ⟨n, vs, kk, v, cs, hl, rfl, rfl, h12⟩ N hN
      cases vs with
      | nil => cases hl
      | cons y ys =>
        simp only [List.map_cons, enumD] at hl
        obtain ⟨rfl, rfl⟩ := List.cons.inj hl
        have hlen := h12 (by simp)
        have h0 : (0 : Int) ≤ (n : Int) % 12 := Int.emod_nonneg _ (by decide)
        have h1 : (n : Int) % 12 < 12 := Int.emod_lt_of_pos _ (by decide)
        obtain ⟨z, hz, _⟩ := atI_some (xs := cs) h0 (by omega)
        have hz' : L2.atI (cs.map fun i => DV.d (.int i)) ((n : Int) % 12) = some (.d (.int z)) := by rw [atI_map, hz]; rfl
        have hj : ixN (cs.map fun i => DV.d (.int i)).length ((n : Int) % 12) = some ((n : Int) % 12).toNat := ixN_nn h0 (by rw [List.length_map]; omega)
        walk_at "dl"
        refine ⟨by decide, ?_⟩
        rw [hz']
        walk_at "dl"
        refine ⟨by decide, ?_⟩
        rw [hj]
        walk_at "dl"
        refine hN _ _ ⟨n + 1, ys, _, _, cs.set ((n : Int) % 12).toNat (z + y), rfl, rfl, ?_, fun _ => by rw [List.length_set]; exact hlen⟩
        rw [List.map_set]
    · have : 12 < ns.length := by
        rcases Nat.lt_or_ge 12 ns.length with h | h
        · exact h
        · rw [List.drop_of_length_le h] at hv; exact absurd (by simp) hv
      rw [List.length_take]
      omega
theorem ok__law_open' {f fd} (F : DFn P w K mg base 1 f fd p__law_open spq__law_open) : DFn P w K mg base 1 f fd p__law_open sp__law_open :=
  F.imp (liftF_pen fun ds M Q ⟨ns, e, hl, k⟩ => ⟨ns, e, fun c p cs hcp hc hp => ⟨c, p, cs, M, rfl, hcp, hc, hp, rfl, k p _ hp ⟨cs, 0, 0, rfl, by decide, by decide⟩⟩⟩)
abbrev s__law_spread : Stmt := top 13
abbrev n__law_spread : List Str := ["cell", "at", "primes", "one", "two", "three"]
abbrev p__law_spread : List Str := ["cell", "at"]
theorem sc__law_spread : FnScope n__law_spread p__law_spread (defScope s__law_spread) := ⟨rfl, rfl, rfl, by decide +kernel, rfl, by decide +kernel, by decide +kernel⟩
theorem ok__law_spread {f fd} (F : Fun K "_law_spread" "_law_spread" s__law_spread f fd) (T : Txt K mg) : DFn P w K mg base 1 f fd p__law_spread sp__law_spread := by
  refine fun_okD F sc__law_spread (fun ds M Q h => ?_) fun cdv A outer s H E hr hgd ds M Q h => ?_
  · obtain ⟨c, a, rfl, h0, h1, _⟩ := h; rfl
  · obtain ⟨c, a, rfl, h0, h1, k⟩ := h
    have hu := room64 hr
    have hu5 := room65 hr
    refine ⟨_, (dss_cons (ds_if (dt_rel od_ge (dv 0) (de_bin od_pow de_int de_int)) (dss_one (ds_ret (dv 0))) dss_nil)
      (dss_cons (ds_set (i := 2) sc__law_spread.nd rfl (by first | exact Or.inl rfl | exact Or.inr rfl) (de_lst (da_cons de_int (da_cons de_int (da_cons de_int (da_cons de_int (da_cons de_int (da_cons de_int (da_cons de_int (da_cons de_int da_nil))))))))))
      (dss_cons (ds_set (i := 2) sc__law_spread.nd rfl (by first | exact Or.inl rfl | exact Or.inr rfl) (de_bin od_add (dv 2) (de_lst (da_cons de_int (da_cons de_int (da_cons de_int (da_cons de_int (da_cons de_int da_nil))))))))
      (dss_cons (ds_set (i := 3) sc__law_spread.nd rfl (by first | exact Or.inl rfl | exact Or.inr rfl) (de_bin od_add (de_bin od_add (de_bin od_mul (de_bin od_mod (de_callTy cd_int rfl T.b_int (by decide +kernel) (da_cons (dv 0) da_nil)) de_int) (de_bin od_add (de_bin od_mul de_int (dv 1)) de_int)) (de_bin od_mul (dv 1) de_int)) de_int))
      (dss_cons (ds_set (i := 3) sc__law_spread.nd rfl (by first | exact Or.inl rfl | exact Or.inr rfl) (de_bin od_mod (de_callTy cd_int rfl T.b_int (by decide +kernel) (da_cons (de_bin od_pow (dv 3) de_int) da_nil)) (de_ix (dv 2) (de_bin od_mod (de_callTy cd_int rfl T.b_int (by decide +kernel) (da_cons (dv 1) da_nil)) de_int))))
      (dss_cons (ds_set (i := 4) sc__law_spread.nd rfl (by first | exact Or.inl rfl | exact Or.inr rfl) (de_bin od_mod (de_callTy cd_int rfl T.b_int (by decide +kernel) (da_cons (de_bin od_pow (de_bin od_add (de_bin od_add (de_bin od_mul (dv 3) (de_bin od_add (dv 1) de_int)) (de_bin od_mod (de_callTy cd_int rfl T.b_int (by decide +kernel) (da_cons (dv 0) da_nil)) de_int)) de_int) de_int) da_nil)) (de_ix (dv 2) (de_bin od_mod (de_callTy cd_int rfl T.b_int (by decide +kernel) (da_cons (de_bin od_add (dv 1) de_int) da_nil)) de_int))))
      (dss_cons (ds_set (i := 5) sc__law_spread.nd rfl (by first | exact Or.inl rfl | exact Or.inr rfl) (de_bin od_mod (de_callTy cd_int rfl T.b_int (by decide +kernel) (da_cons (de_bin od_pow (de_bin od_add (de_bin od_add (dv 4) (de_bin od_mod (de_callTy cd_int rfl T.b_int (by decide +kernel) (da_cons (dv 3) da_nil)) de_int)) (dv 1)) de_int) da_nil)) (de_ix (dv 2) (de_bin od_mod (de_callTy cd_int rfl T.b_int (by decide +kernel) (da_cons (de_bin od_add (dv 1) de_int) da_nil)) de_int))))
      (dss_one (ds_ret (de_bin od_add (de_bin od_mul (de_bin od_add (de_bin od_mul (dv 3) de_int) (dv 4)) de_int) (dv 5))))))))))), ?_⟩
    walk_at "dl"
    rw [show [PyData.int 2147483629, PyData.int 2147483587, PyData.int 2147483579, PyData.int 2147483563, PyData.int 2147483549, PyData.int 2147483543, PyData.int 2147483497, PyData.int 2147483489, PyData.int 2147483477, PyData.int 2147483423, PyData.int 2147483399, PyData.int 2147483353, PyData.int 2147483323] = primesL from rfl]
    have m13 : ∀ x : Int, 0 ≤ x % 13 ∧ x % 13 < 13 := fun x => ⟨Int.emod_nonneg _ (by decide), Int.emod_lt_of_pos _ (by decide)⟩
    obtain ⟨p1, e1, p1a, p1b⟩ := primes_ok (m13 a).1 (m13 a).2
    obtain ⟨p2, e2, p2a, p2b⟩ := primes_ok (m13 (a + 5)).1 (m13 (a + 5)).2
    obtain ⟨p3, e3, p3a, p3b⟩ := primes_ok (m13 (a + 7)).1 (m13 (a + 7)).2
    have c1 : 0 ≤ c % 1000000007 ∧ c % 1000000007 < 1000000007 := ⟨Int.emod_nonneg _ (by decide), Int.emod_lt_of_pos _ (by decide)⟩
    have c2 : 0 ≤ c % 65537 ∧ c % 65537 < 65537 := ⟨Int.emod_nonneg _ (by decide), Int.emod_lt_of_pos _ (by decide)⟩
    have small : ∀ x y : Int, 0 ≤ x → x < 4294967296 → 0 ≤ y → y < 4294967296 → 0 ≤ x * y ∧ x * y ≤ 18446744065119617025 := fun x y a1 a2 b1 b2 => ⟨Int.mul_nonneg a1 b1, Int.le_trans (Int.mul_le_mul (Int.le_of_lt_add_one (show x < 4294967295 + 1 by omega)) (Int.le_of_lt_add_one (show y < 4294967295 + 1 by omega)) b1 (by decide)) (by decide)⟩
    rw [e1, e2, e3]
    walk_at "dl"
    have w1 : ∀ x y : Int, 0 ≤ x → x < 1000000007 → 0 ≤ y → y ≤ 4000000 → 0 ≤ x * y ∧ x * y ≤ 4000000028000000 := fun x y a1 a2 b1 b2 => ⟨Int.mul_nonneg a1 b1, Int.le_trans (Int.mul_le_mul (Int.le_of_lt a2) b2 b1 (by decide)) (by decide)⟩
    have w2 : ∀ x y : Int, 0 ≤ x → x < 2147483648 → 0 ≤ y → y ≤ 4000000 → 0 ≤ x * y ∧ x * y ≤ 8589934592000000 := fun x y a1 a2 b1 b2 => ⟨Int.mul_nonneg a1 b1, Int.le_trans (Int.mul_le_mul (Int.le_of_lt a2) b2 b1 (by decide)) (by decide)⟩
    have q1 := w1 (c % 1000000007) (2 * a + 69069) c1.1 c1.2 (by omega) (by omega)
    generalize hA : c % 1000000007 * (2 * a + 69069) = A1 at q1 ⊢
    have r1 : ∀ x : Int, 0 ≤ x % p1 ∧ x % p1 < p1 := fun x => ⟨Int.emod_nonneg _ (by omega), Int.emod_lt_of_pos _ p1a⟩
    have r2 : ∀ x : Int, 0 ≤ x % p2 ∧ x % p2 < p2 := fun x => ⟨Int.emod_nonneg _ (by omega), Int.emod_lt_of_pos _ p2a⟩
    have z1 := r1 ((A1 + a * 40503 + 977) ^ Int.toNat 3)
    generalize hO : (A1 + a * 40503 + 977) ^ Int.toNat 3 % p1 = one at z1 ⊢
    have q2 := w2 one (a + 3) z1.1 (by omega) (by omega) (by omega)
    generalize hB : one * (a + 3) = B1 at q2 ⊢
    have z2 := r2 ((B1 + c % 65537 + 5) ^ Int.toNat 5)
    generalize hT : (B1 + c % 65537 + 5) ^ Int.toNat 5 % p2 = two at z2 ⊢
    have c3 : 0 ≤ one % 1009 ∧ one % 1009 < 1009 := ⟨Int.emod_nonneg _ (by decide), Int.emod_lt_of_pos _ (by decide)⟩
    refine ⟨⟨by decide, by decide, by decide⟩, ?_⟩
    split
    · exact k c
    · refine ⟨list_len (by decide), list_len (by decide), list_len (by decide), by decide, .inl ⟨by decide, by decide⟩, .inl ⟨by omega, by omega⟩, .inr ⟨by decide, by decide⟩, ⟨by decide, by decide, by omega⟩, by decide, p1a, .inl ⟨by omega, by omega⟩, by decide, ⟨by decide, by decide, by omega⟩, by decide, p2a, by decide, ⟨by decide, by decide, by omega⟩, by decide, p3a, .inr ⟨by decide, by decide⟩, .inr ⟨by decide, by decide⟩, k _⟩
abbrev s__law_take : Stmt := top 14
abbrev n__law_take : List Str := ["pen", "amount", "found", "at", "cell"]
abbrev p__law_take : List Str := ["pen", "amount"]
theorem sc__law_take : FnScope n__law_take p__law_take (defScope s__law_take) := ⟨rfl, rfl, rfl, by decide +kernel, rfl, by decide +kernel, by decide +kernel⟩
theorem ok__law_take {f fd} (F : Fun K "_law_take" "_law_take" s__law_take f fd) (T : Txt K mg) (c__law_spread : Callee P w K mg base "_law_spread" 1 p__law_spread sp__law_spread) : DFn P w K mg base 2 f fd p__law_take sp__law_take := by
  refine fun_okD F sc__law_take (fun ds M Q h => ?_) fun cdv A outer s H E hr hgd ds M Q h => ?_
  · obtain ⟨a, m, n, mo, rfl, hM, ⟨ns, at', cur, rfl, h0, h1⟩, hn, hm1, hm2, _⟩ := h; rfl
  · obtain ⟨a, m, n, mo, rfl, hM, ⟨ns, at', cur, rfl, h0, h1⟩, hn, hm1, hm2, k⟩ := h
    have hu := room64 hr
    have hu5 := room65 hr
    refine ⟨_, (dss_cons (ds_if (dt_rel od_lt (de_ix (dv 0) de_int) (dv 1)) (dss_cons (ds_set (i := 3) sc__law_take.nd rfl (by first | exact Or.inl rfl | exact Or.inr rfl) (de_ix (dv 0) de_int))
      (dss_cons (ds_set (i := 4) sc__law_take.nd rfl (by first | exact Or.inl rfl | exact Or.inr rfl) de_int)
      (dss_cons (ds_if (dt_rel od_lt (dv 3) (de_callB cd_len rfl T.b_len (by decide +kernel) (da_cons (de_ix (dv 0) de_int) da_nil))) (dss_one (ds_set (i := 4) sc__law_take.nd rfl (by first | exact Or.inl rfl | exact Or.inr rfl) (de_ix (de_ix (dv 0) de_int) (dv 3)))) (dss_one (ds_if (dt_rel od_gt (de_callB cd_len rfl T.b_len (by decide +kernel) (da_cons (de_ix (dv 0) de_int) da_nil)) de_int) (dss_one (ds_set (i := 4) sc__law_take.nd rfl (by first | exact Or.inl rfl | exact Or.inr rfl) (de_bin od_mod (de_callTy cd_int rfl T.b_int (by decide +kernel) (da_cons (de_ix (de_ix (dv 0) de_int) (de_bin od_mod (de_callTy cd_int rfl T.b_int (by decide +kernel) (da_cons (de_bin od_add (de_bin od_mul (dv 3) de_int) de_int) da_nil)) (de_callB cd_len rfl T.b_len (by decide +kernel) (da_cons (de_ix (dv 0) de_int) da_nil)))) da_nil)) (de_bin od_add (de_bin od_pow de_int de_int) (dv 3))))) dss_nil)))
      (dss_cons (ds_setIx (de_bin od_add (dv 3) de_int) (dv 0) de_int)
      (dss_one (ds_setIx (de_call c__law_spread hr hgd (da_cons (dv 4) (da_cons (dv 3) da_nil))) (dv 0) de_int)))))) dss_nil)
      (dss_cons (ds_set (i := 2) sc__law_take.nd rfl (by first | exact Or.inl rfl | exact Or.inr rfl) (de_bin od_mod (de_callTy cd_int rfl T.b_int (by decide +kernel) (da_cons (de_ix (dv 0) de_int) da_nil)) (dv 1)))
      (dss_cons (ds_setIx (de_bin od_fdiv (de_ix (dv 0) de_int) (dv 1)) (dv 0) de_int)
      (dss_one (ds_ret (dv 2)))))), ?_⟩
    have fin : ∀ (b cur : Int), 0 ≤ b → b ≤ (n : Int) + 1 → 0 < m ∧ CDiv cur m ∧ Q (.d (.int (cur % m))) (mupd M a (.lst [.d (.list (ns.map .int)), .d (.int b), .d (.int (cur / m))])) := fun b cur b0 b1 =>
      ⟨by omega, ⟨by omega, hm2⟩, k _ _ (Int.emod_nonneg _ (by omega)) (Int.emod_lt_of_pos _ (by omega)) ⟨ns, b, cur / m, rfl, b0, by omega⟩⟩
    simp only [wSeq, wIfS, wB, wOp, wV, wC, ixD_e4, optD_e1, moL, startD, iOp0_e1, List.map, List.length_cons, List.length_nil, List.replicate, List.nil_append, List.cons_append, List.getElem?_cons_zero, List.getElem?_cons_succ, Nat.reduceSub, Nat.reduceAdd, hM, atI_lit]
    by_cases hc : cur < m
    · rw [if_pos (by simpa using hc)]
      iterate 3 (walk_at "dl"; try simp only [hM, List.length_map])
      by_cases hb : at' < (ns.length : Int)
      · obtain ⟨c, hc', _⟩ := atI_some (xs := ns) h0 hb
        have hc2 : L2.atI (ns.map PyData.int) at' = some (.int c) := by rw [atI_map, hc']; rfl
        rw [if_pos (by simpa using hb)]
        iterate 5 (walk_at "dl"; try simp only [hM, hc2])
        refine ⟨c, at', rfl, h0, by omega, fun r => ?_⟩
        walk_at "dl"
        exact fin (at' + 1) r (by omega) (by omega)
      · rw [if_neg (by simpa using hb)]
        by_cases hz : ns.length = 0
        · rw [if_neg (by simp [hz])]
          refine ⟨0, at', rfl, h0, by omega, fun r => ?_⟩
          walk_at "dl"
          exact fin (at' + 1) r (by omega) (by omega)
        · rw [if_pos (by simp; omega)]
          iterate 4 (walk_at "dl"; try simp only [hM, List.length_map])
          have g0 : 0 ≤ (at' * 5 + 3) % (ns.length : Int) := Int.emod_nonneg _ (by omega)
          have g1 : (at' * 5 + 3) % (ns.length : Int) < (ns.length : Int) := Int.emod_lt_of_pos _ (by omega)
          obtain ⟨c, hc', _⟩ := atI_some (xs := ns) g0 g1
          have hc2 : L2.atI (ns.map PyData.int) ((at' * 5 + 3) % (ns.length : Int)) = some (.int c) := by rw [atI_map, hc']; rfl
          refine ⟨.inr ⟨by decide, by decide⟩, by omega, ?_⟩
          simp only [hc2]
          iterate 4 (walk_at "dl"; try simp only [hM, List.length_map])
          have h17 : (10 : Int) ^ Int.toNat 17 = 100000000000000000 := by decide +kernel
          refine ⟨⟨by decide, by decide, by decide⟩, by omega, ?_⟩
          refine ⟨_, at', rfl, h0, by omega, fun r => ?_⟩
          walk_at "dl"
          exact fin (at' + 1) r (by omega) (by omega)
    · rw [if_neg (by simpa using hc)]
      iterate 3 (walk_at "dl"; try simp only [hM, List.length_map])
      exact fin at' cur h0 (by omega)
abbrev s__law_same : Stmt := top 15
abbrev n__law_same : List Str := ["found", "due", "one", "other"]
abbrev p__law_same : List Str := ["found", "due"]
theorem sc__law_same : FnScope n__law_same p__law_same (defScope s__law_same) := ⟨rfl, rfl, rfl, by decide +kernel, rfl, by decide +kernel, by decide +kernel⟩
theorem rec__law_same {f fd} (F : Fun K "_law_same" "_law_same" s__law_same f fd) (T : Txt K mg) (hmf : mg "_law_same" = some (.ref f)) (hbf : Binds K fd p__law_same []) : ∀ n : Nat, DFn P w K mg base (1 + n) f fd p__law_same (spr__law_same n)
  | 0 => DFn.never fun ds M Q ⟨_, _, _, ⟨_, _, h, _⟩, _⟩ => h
  | n + 1 => by
    have c__law_same := callee_mk (nm := "_law_same") F hmf hbf (rec__law_same F T hmf hbf n)
    refine fun_okD F sc__law_same (fun ds M Q h => ?_) fun cdv A outer s H E hr hgd ds M Q h => ?_
    · obtain ⟨_, _, rfl, ⟨x, rfl, _, _⟩, _⟩ := h; rfl
    · obtain ⟨_, _, rfl, ⟨x, rfl, hs, rfl⟩, k⟩ := h
      have hu := room64 hr
      have hu5 := room65 hr
      refine ⟨_, (dss_cons (ds_if (dt_w (dw_or (dt_rel od_is (dv 1) de_non) (dw_or1 (dt_rel od_is (dv 0) de_non)))) (dss_one (ds_ret (de_and (de_rel od_is (dv 1) de_non) (de_one (de_rel od_is (dv 0) de_non))))) dss_nil)
      (dss_cons (ds_if (dt_w (dw_or (dt_val (de_isi (t := .bool) rfl T.b_isinstance rfl T.b_bool (by decide +kernel) (dv 1))) (dw_or1 (dt_val (de_isi (t := .bool) rfl T.b_isinstance rfl T.b_bool (by decide +kernel) (dv 0)))))) (dss_one (ds_ret (de_and (de_isi (t := .bool) rfl T.b_isinstance rfl T.b_bool (by decide +kernel) (dv 1)) (de_and (de_isi (t := .bool) rfl T.b_isinstance rfl T.b_bool (by decide +kernel) (dv 0)) (de_one (de_rel (od_eq hu) (dv 0) (dv 1))))))) dss_nil)
      (dss_cons (ds_if (dt_val (de_isi2 (t := .int) (u := .str) rfl T.b_isinstance rfl T.b_int (by decide +kernel) rfl T.b_str (by decide +kernel) (dv 1))) (dss_cons (ds_if (dt_rel (od_ne hu) (de_isi (t := .int) rfl T.b_isinstance rfl T.b_int (by decide +kernel) (dv 0)) (de_isi (t := .int) rfl T.b_isinstance rfl T.b_int (by decide +kernel) (dv 1))) (dss_one (ds_ret de_bl)) dss_nil)
      (dss_one (ds_ret (de_and (de_isi2 (t := .int) (u := .str) rfl T.b_isinstance rfl T.b_int (by decide +kernel) rfl T.b_str (by decide +kernel) (dv 0)) (de_one (de_rel (od_eq hu) (dv 0) (dv 1))))))) dss_nil)
      (dss_cons (ds_if (dt_w (dw_or (dt_rel (od_ne hu) (de_isi (t := .tuple) rfl T.b_isinstance rfl T.b_tuple (by decide +kernel) (dv 1)) (de_isi (t := .tuple) rfl T.b_isinstance rfl T.b_tuple (by decide +kernel) (dv 0))) (dw_or1 (dt_rel (od_ne hu) (de_isi (t := .list) rfl T.b_isinstance rfl T.b_list (by decide +kernel) (dv 1)) (de_isi (t := .list) rfl T.b_isinstance rfl T.b_list (by decide +kernel) (dv 0)))))) (dss_one (ds_ret de_bl)) dss_nil)
      (dss_cons (ds_if (dt_rel (od_ne hu) (de_callB cd_len rfl T.b_len (by decide +kernel) (da_cons (dv 0) da_nil)) (de_callB cd_len rfl T.b_len (by decide +kernel) (da_cons (dv 1) da_nil))) (dss_one (ds_ret de_bl)) dss_nil)
      (dss_one (ds_ret (de_rel (od_notin hu5) de_bl (de_lc (fin := finF) finF_ok rfl sc__law_same.nd (di_zip rfl T.b_zip (da_cons (dv 0) (da_cons (dv 1) da_nil))) (blkOk_by (own := [("one", 2), ("other", 3)]) (N := n__law_same) (sc := defScope s__law_same) (by decide +kernel)) (gsim_tup (n := 2) (gssim_cons (gsim_name (i := 2) (by decide)) (gssim_cons (gsim_name (i := 3) (by decide)) gssim_nil))) (fun _ _ _ _ _ => pg_tup (n := 2) rfl (pgs_cons (pg_name (i := 2) sc__law_same.nd rfl (by first | exact Or.inl rfl | exact Or.inr rfl)) (pgs_cons (pg_name (i := 3) sc__law_same.nd rfl (by first | exact Or.inl rfl | exact Or.inr rfl)) pgs_nil))) (fun _ _ _ _ _ => dts_nil) (fun _ _ _ _ _ => (de_call (hj := Nat.le_refl _) c__law_same hr hgd (da_cons (dv 2) (da_cons (dv 3) da_nil))))))))))))), ?_⟩
      walk_at "dl"
      cases x <;> simp only [isNone, isTy, Bool.not_true, Bool.not_false, bOf, if_true, if_false, Bool.false_eq_true] <;> walk_at "dl"
      · exact k
      · exact k
      · exact k
      · exact k
      · rename_i xs
        refine lc_map (xs.map fun x => .d (.tuple [x, x])) (fun _ => .bool true) (fun R h => ?_) (by simpa using hs.1) (fun x hx M' _ Q' q => ?_) ?_
        · walk_at "dl"
          rw [zip_self (fun x => x)]
          exact h
        · obtain ⟨y, hy, rfl⟩ := List.mem_map.mp hx
          walk_at "dl"
          exact ⟨_, _, rfl, ⟨y, rfl, hs.2 y hy, rfl⟩, q⟩
        · have e : ((xs.map fun x => DV.d (.tuple [x, x])).map fun _ => PyData.bool true) = (xs.map fun _ => true).map PyData.bool := by simp [List.map_map, Function.comp_def]
          rw [e]
          show SeqAt.shaped (.bool false) = true ∧ SeqAt.shaped (.list _) = true ∧ _
          rw [any_false]
          refine ⟨rfl, shaped_bools _, ?_⟩
          have e2 : (xs.map fun _ => true).all (fun b => b) = true := by simp
          rw [e2]
          exact k
      · rename_i xs
        refine lc_map (xs.map fun x => .d (.tuple [x, x])) (fun _ => .bool true) (fun R h => ?_) (by simpa using hs.1) (fun x hx M' _ Q' q => ?_) ?_
        · walk_at "dl"
          rw [zip_self (fun x => x)]
          exact h
        · obtain ⟨y, hy, rfl⟩ := List.mem_map.mp hx
          walk_at "dl"
          exact ⟨_, _, rfl, ⟨y, rfl, hs.2 y hy, rfl⟩, q⟩
        · have e : ((xs.map fun x => DV.d (.tuple [x, x])).map fun _ => PyData.bool true) = (xs.map fun _ => true).map PyData.bool := by simp [List.map_map, Function.comp_def]
          rw [e]
          show SeqAt.shaped (.bool false) = true ∧ SeqAt.shaped (.list _) = true ∧ _
          rw [any_false]
          refine ⟨rfl, shaped_bools _, ?_⟩
          have e2 : (xs.map fun _ => true).all (fun b => b) = true := by simp
          rw [e2]
          exact k
      · exact hs.elim
theorem ok__law_same {f fd} (F : Fun K "_law_same" "_law_same" s__law_same f fd) (T : Txt K mg) (hmf : mg "_law_same" = some (.ref f)) (hbf : Binds K fd p__law_same []) : DFn P w K mg base 21 f fd p__law_same sp__law_same := DFn.imp (rec__law_same F T hmf hbf 20) liftF_view
abbrev s__law_one_of : Stmt := top 16
abbrev n__law_one_of : List Str := ["pen", "some"]
abbrev p__law_one_of : List Str := ["pen", "some"]
theorem sc__law_one_of : FnScope n__law_one_of p__law_one_of (defScope s__law_one_of) := ⟨rfl, rfl, rfl, by decide +kernel, rfl, by decide +kernel, by decide +kernel⟩
theorem ok__law_one_of {f fd} (F : Fun K "_law_one_of" "_law_one_of" s__law_one_of f fd) (T : Txt K mg) (c__law_take : Callee P w K mg base "_law_take" 2 p__law_take sp__law_take) : DFn P w K mg base 3 f fd p__law_one_of sp__law_one_of := by
  refine fun_okD F sc__law_one_of (fun ds M Q h => ?_) fun cdv A outer s H E hr hgd ds M Q h => ?_
  · obtain ⟨a, n, mo, xs, rfl, hM, hp, hn, h1, h2, _⟩ := h; rfl
  · obtain ⟨a, n, mo, xs, rfl, hM, hp, hn, h1, h2, k⟩ := h
    have hu := room64 hr
    have hu5 := room65 hr
    refine ⟨_, (dss_one (ds_ret (de_ix (dv 1) (de_call c__law_take hr hgd (da_cons (dv 0) (da_cons (de_callB cd_len rfl T.b_len (by decide +kernel) (da_cons (dv 1) da_nil)) da_nil)))))), ?_⟩
    walk_at "dl"
    refine take_go hM hp hn (by omega) (by omega) fun r mo' r0 r1 hp' => ?_
    walk_at "dl"
    obtain ⟨x, hx, hm⟩ := atI_some (xs := xs) r0 r1
    rw [hx]
    exact k x hm mo' hp'
abbrev s__law_is_integer : Stmt := top 17
abbrev n__law_is_integer : List Str := ["value", "low", "high"]
abbrev p__law_is_integer : List Str := ["value", "low", "high"]
theorem sc__law_is_integer : FnScope n__law_is_integer p__law_is_integer (defScope s__law_is_integer) := ⟨rfl, rfl, rfl, by decide +kernel, rfl, by decide +kernel, by decide +kernel⟩
theorem ok__law_is_integer {f fd} (F : Fun K "_law_is_integer" "_law_is_integer" s__law_is_integer f fd) (T : Txt K mg) : DFn P w K mg base 1 f fd p__law_is_integer sp__law_is_integer := by
  refine fun_okD F sc__law_is_integer (fun ds M Q h => ?_) fun cdv A outer s H E hr hgd ds M Q h => ?_
  · obtain ⟨d, lo, hi, rfl, _⟩ := h; rfl
  · obtain ⟨d, lo, hi, rfl, k⟩ := h
    have hu := room64 hr
    have hu5 := room65 hr
    refine ⟨_, (dss_one (ds_ret (de_and (de_isi (t := .int) rfl T.b_isinstance rfl T.b_int (by decide +kernel) (dv 0)) (de_and (de_not (de_isi (t := .bool) rfl T.b_isinstance rfl T.b_bool (by decide +kernel) (dv 0))) (de_one (de_chain od_le od_le (dv 1) (dv 0) (dv 2))))))), ?_⟩
    walk_at "dl"
    cases d <;> simp only [isTy, isWithin, Bool.not_true, Bool.not_false, bOf, if_true, if_false, Bool.false_eq_true] at k ⊢ <;> first | exact k | skip
    rename_i i
    walk_at "dl"
    by_cases h1 : lo ≤ i
    · simp only [h1, decide_true, if_true, Bool.true_and] at k ⊢; exact k
    · simp only [h1, decide_false, if_false, Bool.false_and, Bool.false_eq_true] at k ⊢; exact k
abbrev s__law_odd : Stmt := top 18
abbrev n__law_odd : List Str := ["pen"]
abbrev p__law_odd : List Str := ["pen"]
theorem sc__law_odd : FnScope n__law_odd p__law_odd (defScope s__law_odd) := ⟨rfl, rfl, rfl, by decide +kernel, rfl, by decide +kernel, by decide +kernel⟩
theorem ok__law_odd {f fd} (F : Fun K "_law_odd" "_law_odd" s__law_odd f fd) (T : Txt K mg) (c__law_one_of : Callee P w K mg base "_law_one_of" 3 p__law_one_of sp__law_one_of) : DFn P w K mg base 4 f fd p__law_odd sp__law_odd := by
  refine fun_okD F sc__law_odd (fun ds M Q h => ?_) fun cdv A outer s H E hr hgd ds M Q h => ?_
  · obtain ⟨a, n, mo, rfl, hM, hp, hn, _⟩ := h; rfl
  · obtain ⟨a, n, mo, rfl, hM, hp, hn, k⟩ := h
    have hu := room64 hr
    have hu5 := room65 hr
    refine ⟨_, (dss_one (ds_ret (de_call c__law_one_of hr hgd (da_cons (dv 0) (da_cons (de_lst (da_cons de_non (da_cons de_bl (da_cons de_bl (da_cons de_int (da_cons de_int (da_cons (de_neg de_int) (da_cons de_str (da_cons de_str (da_cons (de_tup da_nil) (da_cons (de_lst da_nil) (da_cons de_dct0 (da_cons (de_tup (da_cons de_int da_nil)) (da_cons (de_tup (da_cons de_int (da_cons de_int da_nil))) (da_cons (de_lst (da_cons (de_tup da_nil) da_nil)) (da_cons (de_tup (da_cons (de_tup da_nil) da_nil)) (da_cons de_int (da_cons (de_bin od_pow de_int de_int) da_nil)))))))))))))))))) da_nil))))), ?_⟩
    walk_at "dl"
    have h20 : (10 : Int) ^ Int.toNat 20 = 100000000000000000000 := by decide +kernel
    rw [h20]
    refine ⟨list_len (by decide), list_len (by decide), list_len (by decide), list_len (by decide), list_len (by decide), list_len (by decide), list_len (by decide), list_len (by decide), ⟨by decide, by decide, by decide⟩, list_len (by decide), ?_⟩
    exact one_go hM hp hn (by decide) (by decide) fun x hx mo' hp' => k x mo' hx hp'
abbrev s__law_bent : Stmt := top 19
abbrev n__law_bent : List Str := ["pen", "value", "found", "way", "k"]
abbrev p__law_bent : List Str := ["pen", "value"]
theorem sc__law_bent : FnScope n__law_bent p__law_bent (defScope s__law_bent) := ⟨rfl, rfl, rfl, by decide +kernel, rfl, by decide +kernel, by decide +kernel⟩
theorem rec__law_bent {f fd} (F : Fun K "_law_bent" "_law_bent" s__law_bent f fd) (T : Txt K mg) (hmf : mg "_law_bent" = some (.ref f)) (hbf : Binds K fd p__law_bent []) (c__law_odd : Callee P w K mg base "_law_odd" 4 p__law_odd sp__law_odd) (c__law_one_of : Callee P w K mg base "_law_one_of" 3 p__law_one_of sp__law_one_of) (c__law_take : Callee P w K mg base "_law_take" 2 p__law_take sp__law_take) : ∀ n : Nat, DFn P w K mg base (5 + n) f fd p__law_bent (spr__law_bent n)
  | 0 => DFn.never fun ds M Q ⟨_, _, _, _, _, _, _, _, _, _, _, _, h, _⟩ => Nat.not_lt_zero _ h
  | n + 1 => by
    have c__law_bent := callee_mk (nm := "_law_bent") F hmf hbf (rec__law_bent F T hmf hbf c__law_odd c__law_one_of c__law_take n)
    refine fun_okD F sc__law_bent (fun ds M Q h => ?_) fun cdv A outer s H E hr hgd ds M Q h => ?_
    · obtain ⟨_, _, _, _, _, _, _, rfl, _⟩ := h; rfl
    · obtain ⟨a, x, m, mo, W, D, B, rfl, hM, hp, hm, hx, hD, hB, hW, k⟩ := h
      have hu := room64 hr
      have hu5 := room65 hr
      have hr : Room (5 + n) _ := hr
      refine ⟨_, (dss_cons (ds_if (dt_w (dw_and (dt_val (de_isi (t := .int) rfl T.b_isinstance rfl T.b_int (by decide +kernel) (dv 1))) (dw_and1 (dt_rel od_gt (de_call c__law_take hr hgd (da_cons (dv 0) (da_cons de_int da_nil))) de_int)))) (dss_one (ds_ret (de_call c__law_one_of hr hgd (da_cons (dv 0) (da_cons (de_lst (da_cons (de_bin od_addB (dv 1) de_int) (da_cons (de_bin od_subB (dv 1) de_int) (da_cons (de_ifExp (dt_chain od_leB od_ltB de_int (dv 1) de_int) (de_rel (od_eq hu) (dv 1) de_int) (de_neg (dv 1))) (da_cons (de_bin od_mulB (dv 1) de_int) da_nil))))) da_nil))))) dss_nil)
      (dss_cons (ds_if (dt_w (dw_or (dt_not (dt_val (de_isi2 (t := .tuple) (u := .list) rfl T.b_isinstance rfl T.b_tuple (by decide +kernel) rfl T.b_list (by decide +kernel) (dv 1)))) (dw_or (dt_rel (od_eq hu) (de_callB cd_len rfl T.b_len (by decide +kernel) (da_cons (dv 1) da_nil)) de_int) (dw_or1 (dt_rel (od_eq hu) (de_call c__law_take hr hgd (da_cons (dv 0) (da_cons de_int da_nil))) de_int))))) (dss_one (ds_ret (de_call c__law_odd hr hgd (da_cons (dv 0) da_nil)))) dss_nil)
      (dss_cons (ds_par3 (i := 2) (j := 3) (l := 4) rfl sc__law_bent.nd rfl rfl rfl (by decide) (by decide) (by decide) rfl rfl rfl (da_cons (de_callTy cd_listM rfl T.b_list (by decide +kernel) (da_cons (dv 1) da_nil)) (da_cons (de_call c__law_take hr hgd (da_cons (dv 0) (da_cons de_int da_nil))) (da_cons (de_call c__law_take hr hgd (da_cons (dv 0) (da_cons (de_callB cd_len rfl T.b_len (by decide +kernel) (da_cons (dv 1) da_nil)) da_nil))) da_nil))) (by rfl))
      (dss_cons (ds_if (dt_rel od_lt (dv 3) de_int) (dss_one (ds_setIx (de_call (hj := Nat.le_refl _) c__law_bent hr hgd (da_cons (dv 0) (da_cons (de_ix (dv 2) (dv 4)) da_nil))) (dv 2) (dv 4))) (dss_frz 2 (dss_one (ds_set (i := 2) sc__law_bent.nd rfl (by first | exact Or.inl rfl | exact Or.inr rfl) (de_ix (de_lst (da_cons (de_bin od_add (de_slice (dv 2) do_none (do_some (dv 4))) (de_slice (dv 2) (do_some (de_bin od_addB (dv 4) de_int)) do_none)) (da_cons (de_bin od_add (dv 2) (de_slice (dv 2) (do_some (dv 4)) (do_some (de_bin od_addB (dv 4) de_int)))) (da_cons (de_rev (dv 2)) da_nil)))) (de_bin od_subB (dv 3) de_int))))))
      (dss_frz 2 (dss_one (ds_ret (de_ifExp (dt_rel (od_eq hu) (de_isi (t := .tuple) rfl T.b_isinstance rfl T.b_tuple (by decide +kernel) (dv 1)) (de_rel od_gt (de_call c__law_take hr hgd (da_cons (dv 0) (da_cons de_int da_nil))) de_int)) (de_callTy cd_tuple rfl T.b_tuple (by decide +kernel) (da_cons (dv 2) da_nil)) (dv 2))))))))), ?_⟩
      have odd : ∀ (mo1 : MO) (m1 : Nat), PenMO m1 mo1 → m1 ≤ m + 5 → sp__law_odd [.r a] (mupd M a mo1) Q := fun mo1 m1 p1 h1 => odd_go mupd_same p1 (by omega) fun y mo2 hy p2 => by
        rw [mupd_mupd]
        exact k y mo2 (odd_nice y hy).mono (p2.mono (by omega))
      have seq : ∀ (isT : Bool) (xs : List PyData), x = (if isT = true then .tuple xs else .list xs) → NiceL (W - 3) (D - 1) B xs ∧ 3 ≤ W ∧ 1 ≤ D := fun isT xs e => by
        subst e
        cases isT
        · obtain ⟨h1, h2, h3⟩ := nice_list_inv hx; exact ⟨h3, h1, h2⟩
        · obtain ⟨h1, h2, h3⟩ := nice_tuple_inv hx; exact ⟨h3, h1, h2⟩
      have fin : ∀ (ys : List PyData) (mo1 : MO) (m1 : Nat) (b : Bool) (r : Int), NiceL (2 * W + 197) (D + 2) (B + 11) ys → PenMO m1 mo1 → m1 ≤ m + 10 * (n + 1) → if (b == decide (0 < r)) = true then Q (.d (.tuple ys)) (mupd M a mo1) else Q (.d (.list ys)) (mupd M a mo1) := fun ys mo1 m1 b r h1 p1 h2 => by
        split
        · exact k _ mo1 (nice_tuple h1).mono (p1.mono h2)
        · exact k _ mo1 (nice_list h1).mono (p1.mono h2)
      cases x with
      | none =>
        walk_at "dl"
        rw [← mupd_self hM]
        exact odd _ _ hp (by omega)
      | str z =>
        walk_at "dl"
        rw [← mupd_self hM]
        exact odd _ _ hp (by omega)
      | dict z =>
        walk_at "dl"
        rw [← mupd_self hM]
        exact odd _ _ hp (by omega)
      | bool b =>
        walk_at "dl"
        refine take_go hM hp (by omega) (by decide) (by decide) fun r mo1 r0 r1 p1 => ?_
        walk_at "dl"
        by_cases hr0 : 0 < r
        · have e1 : decide (0 ≤ b2i b) = true := by cases b <;> rfl
          have e2 : decide (b2i b < 2) = true := by cases b <;> rfl
          rw [if_pos (by simpa using hr0), e1, e2]
          walk_at "dl"
          refine ⟨.inr ⟨by decide, by decide⟩, list_len (n := 4) (by decide), ?_⟩
          refine one_go mupd_same p1 (by omega) (by simp) (by simp) fun y hy mo2 p2 => ?_
          rw [mupd_mupd]
          refine k y mo2 ?_ (p2.mono (by omega))
          have q : Nice 20 0 20 y := by
            have h := List.all_eq_true (p := fun x => decide (wt x ≤ 20) && decide (x.depth ≤ 0) && fits 20 x).mp (by cases b <;> decide +kernel) y hy
            exact nice_mk h
          exact q.mono
        · rw [if_neg (by simpa using hr0)]
          exact odd _ _ p1 (by omega)
      | int i =>
        walk_at "dl"
        refine take_go hM hp (by omega) (by decide) (by decide) fun r mo1 r0 r1 p1 => ?_
        walk_at "dl"
        have hw := hx.w
        have hf := hx.f
        simp only [wt, fits, decide_eq_true_eq] at hw hf
        obtain ⟨b1, b2, b3, b4⟩ := bent_ints hB hf (2 * W + 200) (D + 3) (by omega)
        have go : ∀ z : PyData, Nice (2 * W + 200) (D + 3) (B + 11) z → CMul i 1000 ∧ 4 ≤ sizeLine ∧ sp__law_one_of [.r a, .d (.list [.int (i + 1), .int (i - 1), z, .int (i * 1000)])] (mupd M a mo1) Q := fun z hz => by
          refine ⟨.inr ⟨by decide, by decide⟩, list_len (n := 4) (by decide), ?_⟩
          refine one_go mupd_same p1 (by omega) (by simp) (by simp) fun y hy mo2 p2 => ?_
          rw [mupd_mupd]
          refine k y mo2 ?_ (p2.mono (by omega))
          simp only [List.mem_cons, List.not_mem_nil, or_false] at hy
          rcases hy with rfl | rfl | rfl | rfl <;> assumption
        by_cases hr0 : 0 < r
        · rw [if_pos (by simpa using hr0)]
          split
          · split
            · exact go _ nice_bool
            · exact go _ b3
          · exact go _ b3
        · rw [if_neg (by simpa using hr0)]
          exact odd _ _ p1 (by omega)
      | list xs =>
        obtain ⟨hn, hW3, hD1⟩ := seq false xs rfl
        walk_at "dl"
        by_cases hl : xs = []
        · subst hl
          rw [if_pos (by rfl), ← mupd_self hM]
          exact odd _ _ hp (by omega)
        have hlen : 0 < xs.length := List.length_pos_iff.mpr hl
        have hlen2 : xs.length < 100000 := by
          have : ∀ l : List PyData, 2 * l.length ≤ wtAll l := by
            intro l
            induction l with
            | nil => simp
            | cons y ys ih => simp only [wtAll, List.length_cons]; omega
          have := this xs
          have := hn.w
          omega
        rw [if_neg (by simpa using hl)]
        refine take_go hM hp (by omega) (by decide) (by decide) fun r1 mo1 _ _ p1 => ?_
        walk_at "dl"
        by_cases hr : r1 = 0
        · rw [if_pos (by simpa using hr)]
          exact odd _ _ p1 (by omega)
        rw [if_neg (by simpa using hr)]
        intro p hpn
        have hpa : p ≠ a := ne_of_mem (M := mupd M a mo1) mupd_same hpn
        have hpM : M p = none := by rw [mupd_ne hpa] at hpn; exact hpn
        rw [mupd_comm (Ne.symm hpa)]
        refine take_go mupd_same p1 (by omega) (by decide) (by decide) fun way mo2 w0 w1 p2 => ?_
        rw [mupd_mupd]
        refine take_go mupd_same p2 (by omega) (by omega) (by omega) fun kk mo3 k0 k1 p3 => ?_
        rw [mupd_mupd]
        walk_at "dl"
        have e0 : ∀ (L : MO) (mo' : MO), mupd (mupd M p L) a mo' p = some L := fun L mo' => by rw [mupd_ne hpa, mupd_same]
        by_cases hw : way < 7
        · rw [if_pos (by simpa using hw)]
          obtain ⟨x0, hx0, hm0⟩ := atI_some (xs := xs) k0 k1
          rw [e0]
          walk_at "dl"
          rw [atI_map, hx0]
          walk_at "dl"
          refine ⟨a, x0, m + 3, mo3, wt x0, D - 1, B, rfl, mupd_same, p3, by omega, ⟨Nat.le_refl _, (hn.mem hm0).d, (hn.mem hm0).f⟩, by omega, hB, by have := (hn.mem hm0).w; omega, fun y mo4 hy p4 => ?_⟩
          rw [mupd_mupd]
          walk_at "dl"
          rw [e0]
          walk_at "dl"
          rw [List.length_map, ixN_nn k0 k1]
          walk_at "dl"
          rw [← List.map_set, allD_map]
          walk_at "dl"
          rw [mupd_comm hpa, mupd_mupd, mdel_mupd (by rw [mupd_ne hpa]; exact hpM)]
          refine take_go mupd_same p4 (by omega) (by decide) (by decide) fun r5 mo5 _ _ p5 => ?_
          rw [mupd_mupd]
          walk_at "dl"
          have q : NiceL (2 * W + 197) (D + 2) (B + 11) (xs.set kk.toNat y) := (bent_set (by rw [← hx0, atI_nn k0 k1]) hn hy (by omega) (by omega)).mono
          exact fin _ mo5 _ _ _ q p5 (by omega)
        · rw [if_neg (by simpa using hw)]
          rw [e0]
          walk_at "dl"
          rw [mupd_comm hpa, mdel_mupd (by rw [mupd_ne hpa]; exact hpM)]
          obtain ⟨j, rfl⟩ : ∃ j : Nat, kk = (j : Int) := ⟨kk.toNat, by omega⟩
          have e1 : ((j : Int) + 1) = ((j + 1 : Nat) : Int) := by omega
          rw [e1]
          simp only [cutD_un, cutD_n, cutD_nn, List.length_take, List.length_drop]
          have s1 : (xs.take j ++ xs.drop (j + 1)).Sublist xs := by
            have h := (List.Sublist.refl (xs.take j)).append (List.drop_sublist_drop_left xs (show j ≤ j + 1 by omega))
            rw [List.take_append_drop] at h
            exact h
          have s2 : ((xs.drop j).take (j + 1 - j)).Sublist xs := (List.take_sublist _ _).trans (List.drop_sublist _ _)
          have go : ∀ ys : List PyData, NiceL (2 * W + 197) (D + 2) (B + 11) ys → sp__law_take [.r a, .d (.int 12)] (mupd M a mo3) fun x_2 M1 => iOp0 (fun i j => .bool (decide (j < i))) x_2 (.d (.int 0)) M1 fun y M2 => eqD false (.d (.bool false)) y M2 fun x M1 => match x with
              | .d (.bool k) => if k = true then Q (.d (.tuple ys)) M1 else Q (.d (.list ys)) M1
              | _ => False := fun ys hy => by
            refine take_go mupd_same p3 (by omega) (by decide) (by decide) fun r5 mo5 _ _ p5 => ?_
            rw [mupd_mupd]
            walk_at "dl"
            exact fin _ mo5 _ _ _ hy p5 (by omega)
          refine ⟨list_len (by omega), list_len (by omega), list_len (n := 3) (by decide), ?_⟩
          have hv : way = 7 ∨ way = 8 ∨ way = 9 := by omega
          rcases hv with rfl | rfl | rfl
          · rw [show (7 : Int) - 7 = 0 from rfl]
            walk_at "dl"
            exact go _ (hn.sub s1).mono
          · rw [show (8 : Int) - 7 = 1 from rfl]
            walk_at "dl"
            exact go _ (niceL_append hn (hn.sub s2)).mono
          · rw [show (9 : Int) - 7 = 2 from rfl]
            walk_at "dl"
            exact go _ hn.rev.mono
      | tuple xs =>
        obtain ⟨hn, hW3, hD1⟩ := seq true xs rfl
        walk_at "dl"
        by_cases hl : xs = []
        · subst hl
          rw [if_pos (by rfl), ← mupd_self hM]
          exact odd _ _ hp (by omega)
        have hlen : 0 < xs.length := List.length_pos_iff.mpr hl
        have hlen2 : xs.length < 100000 := by
          have : ∀ l : List PyData, 2 * l.length ≤ wtAll l := by
            intro l
            induction l with
            | nil => simp
            | cons y ys ih => simp only [wtAll, List.length_cons]; omega
          have := this xs
          have := hn.w
          omega
        rw [if_neg (by simpa using hl)]
        refine take_go hM hp (by omega) (by decide) (by decide) fun r1 mo1 _ _ p1 => ?_
        walk_at "dl"
        by_cases hr : r1 = 0
        · rw [if_pos (by simpa using hr)]
          exact odd _ _ p1 (by omega)
        rw [if_neg (by simpa using hr)]
        intro p hpn
        have hpa : p ≠ a := ne_of_mem (M := mupd M a mo1) mupd_same hpn
        have hpM : M p = none := by rw [mupd_ne hpa] at hpn; exact hpn
        rw [mupd_comm (Ne.symm hpa)]
        refine take_go mupd_same p1 (by omega) (by decide) (by decide) fun way mo2 w0 w1 p2 => ?_
        rw [mupd_mupd]
        refine take_go mupd_same p2 (by omega) (by omega) (by omega) fun kk mo3 k0 k1 p3 => ?_
        rw [mupd_mupd]
        walk_at "dl"
        have e0 : ∀ (L : MO) (mo' : MO), mupd (mupd M p L) a mo' p = some L := fun L mo' => by rw [mupd_ne hpa, mupd_same]
        by_cases hw : way < 7
        · rw [if_pos (by simpa using hw)]
          obtain ⟨x0, hx0, hm0⟩ := atI_some (xs := xs) k0 k1
          rw [e0]
          walk_at "dl"
          rw [atI_map, hx0]
          walk_at "dl"
          refine ⟨a, x0, m + 3, mo3, wt x0, D - 1, B, rfl, mupd_same, p3, by omega, ⟨Nat.le_refl _, (hn.mem hm0).d, (hn.mem hm0).f⟩, by omega, hB, by have := (hn.mem hm0).w; omega, fun y mo4 hy p4 => ?_⟩
          rw [mupd_mupd]
          walk_at "dl"
          rw [e0]
          walk_at "dl"
          rw [List.length_map, ixN_nn k0 k1]
          walk_at "dl"
          rw [← List.map_set, allD_map]
          walk_at "dl"
          rw [mupd_comm hpa, mupd_mupd, mdel_mupd (by rw [mupd_ne hpa]; exact hpM)]
          refine take_go mupd_same p4 (by omega) (by decide) (by decide) fun r5 mo5 _ _ p5 => ?_
          rw [mupd_mupd]
          walk_at "dl"
          have q : NiceL (2 * W + 197) (D + 2) (B + 11) (xs.set kk.toNat y) := (bent_set (by rw [← hx0, atI_nn k0 k1]) hn hy (by omega) (by omega)).mono
          exact fin _ mo5 _ _ _ q p5 (by omega)
        · rw [if_neg (by simpa using hw)]
          rw [e0]
          walk_at "dl"
          rw [mupd_comm hpa, mdel_mupd (by rw [mupd_ne hpa]; exact hpM)]
          obtain ⟨j, rfl⟩ : ∃ j : Nat, kk = (j : Int) := ⟨kk.toNat, by omega⟩
          have e1 : ((j : Int) + 1) = ((j + 1 : Nat) : Int) := by omega
          rw [e1]
          simp only [cutD_un, cutD_n, cutD_nn, List.length_take, List.length_drop]
          have s1 : (xs.take j ++ xs.drop (j + 1)).Sublist xs := by
            have h := (List.Sublist.refl (xs.take j)).append (List.drop_sublist_drop_left xs (show j ≤ j + 1 by omega))
            rw [List.take_append_drop] at h
            exact h
          have s2 : ((xs.drop j).take (j + 1 - j)).Sublist xs := (List.take_sublist _ _).trans (List.drop_sublist _ _)
          have go : ∀ ys : List PyData, NiceL (2 * W + 197) (D + 2) (B + 11) ys → sp__law_take [.r a, .d (.int 12)] (mupd M a mo3) fun x_2 M1 => iOp0 (fun i j => .bool (decide (j < i))) x_2 (.d (.int 0)) M1 fun y M2 => eqD false (.d (.bool true)) y M2 fun x M1 => match x with
              | .d (.bool k) => if k = true then Q (.d (.tuple ys)) M1 else Q (.d (.list ys)) M1
              | _ => False := fun ys hy => by
            refine take_go mupd_same p3 (by omega) (by decide) (by decide) fun r5 mo5 _ _ p5 => ?_
            rw [mupd_mupd]
            walk_at "dl"
            exact fin _ mo5 _ _ _ hy p5 (by omega)
          refine ⟨list_len (by omega), list_len (by omega), list_len (n := 3) (by decide), ?_⟩
          have hv : way = 7 ∨ way = 8 ∨ way = 9 := by omega
          rcases hv with rfl | rfl | rfl
          · rw [show (7 : Int) - 7 = 0 from rfl]
            walk_at "dl"
            exact go _ (hn.sub s1).mono
          · rw [show (8 : Int) - 7 = 1 from rfl]
            walk_at "dl"
            exact go _ (niceL_append hn (hn.sub s2)).mono
          · rw [show (9 : Int) - 7 = 2 from rfl]
            walk_at "dl"
            exact go _ hn.rev.mono
theorem ok__law_bent {f fd} (F : Fun K "_law_bent" "_law_bent" s__law_bent f fd) (T : Txt K mg) (hmf : mg "_law_bent" = some (.ref f)) (hbf : Binds K fd p__law_bent []) (c__law_odd : Callee P w K mg base "_law_odd" 4 p__law_odd sp__law_odd) (c__law_one_of : Callee P w K mg base "_law_one_of" 3 p__law_one_of sp__law_one_of) (c__law_take : Callee P w K mg base "_law_take" 2 p__law_take sp__law_take) : DFn P w K mg base 25 f fd p__law_bent sp__law_bent := (rec__law_bent F T hmf hbf c__law_odd c__law_one_of c__law_take 20)
abbrev s__law_draw_test : Stmt := top 20
abbrev n__law_draw_test : List Str := ["pen", "values", "kinds", "found", "kind", "value"]
abbrev p__law_draw_test : List Str := ["pen", "values", "kinds"]
theorem sc__law_draw_test : FnScope n__law_draw_test p__law_draw_test (defScope s__law_draw_test) := ⟨rfl, rfl, rfl, by decide +kernel, rfl, by decide +kernel, by decide +kernel⟩
theorem ok__law_draw_test {f fd} (F : Fun K "_law_draw_test" "_law_draw_test" s__law_draw_test f fd) (T : Txt K mg) (c__law_take : Callee P w K mg base "_law_take" 2 p__law_take sp__law_take) : DFn P w K mg base 3 f fd p__law_draw_test sp__law_draw_test := by
  refine fun_okD F sc__law_draw_test (fun ds M Q h => ?_) fun cdv A outer s H E hr hgd ds M Q h => ?_
  · obtain ⟨a, v, kd, n, mo, rfl, hv0, hv3, hk0, hk3, hM, hp, hn, _⟩ := h; rfl
  · obtain ⟨a, v, kd, n, mo, rfl, hv0, hv3, hk0, hk3, hM, hp, hn, k⟩ := h
    have hu := room64 hr
    have hu5 := room65 hr
    refine ⟨_, (dss_cons (ds_set (i := 3) sc__law_draw_test.nd rfl (by first | exact Or.inl rfl | exact Or.inr rfl) (de_lst da_nil))
      (dss_cons (ds_for PassesOwn.never rfl (di_range1 rfl T.b_range (da_cons (dv 2) da_nil)) (dg_name (i := 4) (vs := [4]) sc__law_draw_test.nd rfl (by first | exact Or.inl rfl | exact Or.inr rfl) (by decide)) (dss_one (ds_set (i := 3) sc__law_draw_test.nd rfl (by first | exact Or.inl rfl | exact Or.inr rfl) (de_bin od_add (dv 3) (de_lc (fin := finF) finF_ok rfl sc__law_draw_test.nd (di_range1 rfl T.b_range (da_cons (dv 1) da_nil)) (blkOk_by (own := [("value", 5)]) (N := n__law_draw_test) (sc := defScope s__law_draw_test) (by decide +kernel)) (gsim_name (i := 5) (by decide)) (fun _ _ _ _ _ => pg_name (i := 5) sc__law_draw_test.nd rfl (by first | exact Or.inl rfl | exact Or.inr rfl)) (fun _ _ _ _ _ => dts_one (dt_rel od_gt (de_call c__law_take hr hgd (da_cons (dv 0) (da_cons de_int da_nil))) de_int)) (fun _ _ _ _ _ => (de_tup (da_cons (dv 4) (da_cons (dv 5) da_nil)))))))))
      (dss_one (ds_ret (de_callTy cd_tuple rfl T.b_tuple (by decide +kernel) (da_cons (dv 3) da_nil)))))), ?_⟩
    walk_at "dl"
    refine ⟨list_len (n := 0) (by decide), by omega, by omega, ?_⟩
    refine loopD_ind (fun rest δ M1 => ∃ (i : Nat) (mo1 : MO) (ps : List (List Int)) (v4 v5 : Option DV), rest = (rngD 0 kd.toNat).drop i ∧ (i : Int) ≤ kd ∧ δ = [some (.r a), some (.d (.int v)), some (.d (.int kd)), some (.d (.list (ps.map tupI))), v4, v5] ∧ M1 = mupd M a mo1 ∧ PenMO (n + 3 * i) mo1 ∧
      ps.length ≤ 3 * i ∧ ∀ p ∈ ps, ∃ x y : Int, p = [x, y] ∧ 0 ≤ x ∧ x < kd ∧ 0 ≤ y ∧ y < v) (fun _ _ _ _ => trivial) ?_ ?_ _ _ _ ⟨0, mo, [], _, _, rfl, by omega, rfl, (mupd_self hM).symm, hp, by simp, by simp⟩
    · rintro δ M1 ⟨i, mo1, ps, v4, v5, hr, hi, rfl, rfl, p1, hl, hps⟩
      walk_at "dl"
      exact k ps mo1 ⟨by omega, hps⟩ (by omega) (p1.mono (by omega))
    · rintro x rest δ M1 ⟨i, mo1, ps, v4, v5, hr, hi, rfl, rfl, p1, hl, hps⟩ N hN
      obtain ⟨hi2, rfl, rfl⟩ := rng_step hr
      walk_at "dl"
      refine lc_indT (rngD 0 v.toNat) (fun l acc M3 => ∃ (j : Nat) (mo2 : MO) (qs : List (List Int)), l = (rngD 0 v.toNat).drop j ∧ (j : Int) ≤ v ∧ M3 = mupd M a mo2 ∧ PenMO (n + 3 * i + j) mo2 ∧ acc = qs.map tupI ∧ qs.length ≤ j ∧ ∀ p ∈ qs, ∃ x y : Int, p = [x, y] ∧ 0 ≤ x ∧ x < kd ∧ 0 ≤ y ∧ y < v)
        (fun R h => ?_) ⟨0, mo1, [], rfl, by omega, rfl, p1, rfl, by simp, by simp⟩ ?_ ?_
      · walk_at "dl"
        exact ⟨by omega, by omega, h⟩
      · rintro x l acc M3 D hD ⟨j, mo2, qs, hr2, hj, rfl, p2, rfl, hql, hqs⟩
        obtain ⟨hj2, rfl, rfl⟩ := rng_step hr2
        have hne := ne_of_mem (M := mupd M a mo2) mupd_same hD
        refine ⟨by rw [List.length_map]; exact list_lt (by omega), fun N2 Z hN2 hZ => ?_⟩
        have e : (qs.map tupI).map DV.d = (qs.map tupI).map DV.d := rfl
        generalize hL : MO.lst ((qs.map tupI).map DV.d) = L at hN2 hZ ⊢
        walk_at "dl"
        refine take_go (mo := mo2) (by rw [mupd_ne (Ne.symm hne), mupd_same]) p2 (by omega) (by decide) (by decide) fun r mo3 r0 r1 p3 => ?_
        rw [mupd_comm hne, mupd_mupd]
        have hD3 : mupd M a mo3 D = none := by rw [mupd_ne hne] at hD ⊢; exact hD
        walk_at "dl"
        split
        · refine ⟨list_len (n := 2) (by decide), hN2 _ _ hD3 ⟨j + 1, mo3, qs ++ [[0 + (i : Int), 0 + (j : Int)]], rfl, by omega, rfl, p3.mono (by omega), by rw [List.map_append]; rfl, by simp; omega, ?_⟩⟩
          intro p hp'
          rcases List.mem_append.mp hp' with q | q
          · exact hqs p q
          · simp only [List.mem_cons, List.not_mem_nil, or_false] at q
            subst q
            exact ⟨_, _, rfl, by omega, by omega, by omega, by omega⟩
        · exact hZ _ hD3 ⟨j + 1, mo3, qs, rfl, by omega, rfl, p3.mono (by omega), rfl, by omega, hqs⟩
      · rintro acc M3 ⟨j, mo2, qs, hr2, hj, rfl, p2, rfl, hql, hqs⟩
        have hjv := rng_nil hr2
        walk_at "dl"
        refine ⟨by simp only [List.length_map]; exact list_len (by omega), hN _ _ ⟨i + 1, mo2, ps ++ qs, _, _, rfl, by omega, by rw [List.map_append], rfl, p2.mono (by omega), by simp; omega, ?_⟩⟩
        intro p hp'
        rcases List.mem_append.mp hp' with q | q
        · exact hps p q
        · exact hqs p q
abbrev s__law_draw_case : Stmt := top 21
abbrev n__law_draw_case : List Str := ["pen", "shapes", "n", "values", "kinds"]
abbrev p__law_draw_case : List Str := ["pen", "shapes"]
theorem sc__law_draw_case : FnScope n__law_draw_case p__law_draw_case (defScope s__law_draw_case) := ⟨rfl, rfl, rfl, by decide +kernel, rfl, by decide +kernel, by decide +kernel⟩
theorem ok__law_draw_case {f fd} (F : Fun K "_law_draw_case" "_law_draw_case" s__law_draw_case f fd) (T : Txt K mg) (c__law_draw_test : Callee P w K mg base "_law_draw_test" 3 p__law_draw_test sp__law_draw_test) (c__law_one_of : Callee P w K mg base "_law_one_of" 3 p__law_one_of sp__law_one_of) (c__law_take : Callee P w K mg base "_law_take" 2 p__law_take sp__law_take) : DFn P w K mg base 4 f fd p__law_draw_case sp__law_draw_case := by
  refine fun_okD F sc__law_draw_case (fun ds M Q h => ?_) fun cdv A outer s H E hr hgd ds M Q h => ?_
  · obtain ⟨a, ss, m, mo, rfl, ⟨hs1, hs2, hs3⟩, hM, hp, hm, _⟩ := h; rfl
  · obtain ⟨a, ss, m, mo, rfl, ⟨hs1, hs2, hs3⟩, hM, hp, hm, k⟩ := h
    have hu := room64 hr
    have hu5 := room65 hr
    refine ⟨_, (dss_cons (ds_asg (de_call c__law_one_of hr hgd (da_cons (dv 0) (da_cons (dv 1) da_nil))) (dg_tup (n := 3) rfl (dgs_cons (dg_name (i := 2) (vs := [2, 3, 4]) sc__law_draw_case.nd rfl (by first | exact Or.inl rfl | exact Or.inr rfl) (by decide)) (dgs_cons (dg_name (i := 3) (vs := [2, 3, 4]) sc__law_draw_case.nd rfl (by first | exact Or.inl rfl | exact Or.inr rfl) (by decide)) (dgs_cons (dg_name (i := 4) (vs := [2, 3, 4]) sc__law_draw_case.nd rfl (by first | exact Or.inl rfl | exact Or.inr rfl) (by decide)) dgs_nil)))))
      (dss_one (ds_ret (de_tup (da_cons (dv 2) (da_cons (dv 3) (da_cons (dv 4) (da_cons (de_call c__law_draw_test hr hgd (da_cons (dv 0) (da_cons (dv 3) (da_cons (dv 4) da_nil)))) (da_cons (de_rel (od_eq hu) (de_call c__law_take hr hgd (da_cons (dv 0) (da_cons de_int da_nil))) de_int) da_nil))))))))), ?_⟩
    walk_at "dl"
    refine one_go hM hp (by omega) (by rw [List.length_map]; exact hs1) (by rw [List.length_map]; omega) fun x hx mo1 p1 => ?_
    obtain ⟨s, hsm, rfl⟩ := List.mem_map.mp hx
    obtain ⟨n, v, kd, rfl, n1, n3, v1, v3, k1, k2⟩ := hs3 s hsm
    simp only [tupI, List.map]
    walk_at "dl"
    refine draw_test_go (by omega) v3 (by omega) (by omega) mupd_same p1 (by omega) fun ps mo2 hps hl p2 => ?_
    rw [mupd_mupd]
    walk_at "dl"
    refine take_go mupd_same p2 (by omega) (by decide) (by decide) fun r mo3 r0 r1 p3 => ?_
    rw [mupd_mupd]
    walk_at "dl"
    exact ⟨list_len (n := 5) (by decide), k n v kd ps _ mo3 n1 n3 v1 v3 k1 k2 hps hl p3⟩
abbrev s__law_value_ok : Stmt := top 22
abbrev n__law_value_ok : List Str := ["case", "value", "pair"]
abbrev p__law_value_ok : List Str := ["case", "value"]
theorem sc__law_value_ok : FnScope n__law_value_ok p__law_value_ok (defScope s__law_value_ok) := ⟨rfl, rfl, rfl, by decide +kernel, rfl, by decide +kernel, by decide +kernel⟩
theorem ok__law_value_ok {f fd} (F : Fun K "_law_value_ok" "_law_value_ok" s__law_value_ok f fd) (T : Txt K mg) : DFn P w K mg base 1 f fd p__law_value_ok sp__law_value_ok := by
  refine fun_okD F sc__law_value_ok (fun ds M Q h => ?_) fun cdv A outer s H E hr hgd ds M Q h => ?_
  · obtain ⟨n, v, kd, ps, j, i, rfl, ⟨hl, hp⟩, _⟩ := h; rfl
  · obtain ⟨n, v, kd, ps, j, i, rfl, ⟨hl, hp⟩, k⟩ := h
    have hu := room64 hr
    have hu5 := room65 hr
    refine ⟨_, (dss_one (ds_ret (de_rel (od_ne hu) (de_lc (fin := finF) finF_ok rfl sc__law_value_ok.nd (di_seq (de_ix (dv 0) de_int)) (blkOk_by (own := [("pair", 2)]) (N := n__law_value_ok) (sc := defScope s__law_value_ok) (by decide +kernel)) (gsim_name (i := 2) (by decide)) (fun _ _ _ _ _ => pg_name (i := 2) sc__law_value_ok.nd rfl (by first | exact Or.inl rfl | exact Or.inr rfl)) (fun _ _ _ _ _ => dts_one (dt_rel (od_eq hu) (de_ix (dv 2) de_int) (dv 1))) (fun _ _ _ _ _ => (dv 2))) (de_lst da_nil)))), ?_⟩
    walk_at "dl"
    refine lc_filter ((ps.map tupI).map .d) (fun z => match z with | .d (.tuple [_, .int b]) => b == i | _ => false) (fun z => match z with | .d y => y | _ => .none) (fun R h => ?_) (by rw [List.length_map, List.length_map]; exact list_len (by omega)) (fun z hz M' _ Q' q => ?_) ?_
    · unfold caseD
      walk_at "dl"
      exact h
    · obtain ⟨y, hy, rfl⟩ := List.mem_map.mp hz
      obtain ⟨p, hpm, rfl⟩ := List.mem_map.mp hy
      obtain ⟨a, b, rfl, _⟩ := hp p hpm
      simp only [tupI, List.map] at q ⊢
      walk_at "dl"
      refine q _ fun Q2 _ h2 => ?_
      walk_at "dl"
      exact h2
    · have e : ((((ps.map tupI).map DV.d).filter fun z => match z with | .d (.tuple [_, .int b]) => b == i | _ => false).map fun z => match z with | .d y => y | _ => PyData.none) = (ps.filter fun p => p.getD 1 0 == i).map tupI := by
        clear k hl
        induction ps with
        | nil => rfl
        | cons p ps ih =>
          obtain ⟨a, b, rfl, _⟩ := hp p (by simp)
          have ih := ih fun q hq => hp q (by simp [hq])
          simp only [List.map_cons, tupI, List.map_nil] at ih ⊢
          by_cases hb : (b == i) = true
          · rw [List.filter_cons_of_pos (by simpa using hb), List.filter_cons_of_pos (by simpa using hb), List.map_cons, List.map_cons, ih]; rfl
          · rw [List.filter_cons_of_neg (by simpa using hb), List.filter_cons_of_neg (by simpa using hb), ih]
      rw [e]
      walk_at "dl"
      have hs := shapedL_tups (ps.filter fun p => p.getD 1 0 == i)
      refine ⟨list_len (n := 0) (by decide), ?_, ?_⟩
      · show (SeqAt.shaped _ && SeqAt.shaped (.list [])) = true
        rw [hs]; rfl
      · have e2 : (!PyData.eqv (.list ((ps.filter fun p => p.getD 1 0 == i).map tupI)) (.list [])) = passV ps i := by
          unfold passV
          cases hf : ps.filter fun p => p.getD 1 0 == i with
          | nil =>
            have : ps.any (fun p => p.getD 1 0 == i) = false := by
              rw [List.any_eq_false]
              intro p hpm h
              have : p ∈ ps.filter fun p => p.getD 1 0 == i := List.mem_filter.mpr ⟨hpm, h⟩
              rw [hf] at this
              cases this
            rw [this]
            simp [PyData.eqv, PyData.eqvAll]
          | cons q r =>
            have hq : q ∈ ps.filter fun p => p.getD 1 0 == i := by rw [hf]; simp
            have : ps.any (fun p => p.getD 1 0 == i) = true := List.any_eq_true.mpr ⟨q, (List.mem_filter.mp hq).1, (List.mem_filter.mp hq).2⟩
            rw [this]
            simp [PyData.eqv, PyData.eqvAll]
        rw [e2]
        exact k
abbrev s__law_is_case : Stmt := top 23
abbrev n__law_is_case : List Str := ["value", "pair", "n", "values", "kinds", "test", "joint"]
abbrev p__law_is_case : List Str := ["value"]
theorem sc__law_is_case : FnScope n__law_is_case p__law_is_case (defScope s__law_is_case) := ⟨rfl, rfl, rfl, by decide +kernel, rfl, by decide +kernel, by decide +kernel⟩
theorem ok__law_is_case {f fd} (F : Fun K "_law_is_case" "_law_is_case" s__law_is_case f fd) (T : Txt K mg) (c__law_is_integer : Callee P w K mg base "_law_is_integer" 1 p__law_is_integer sp__law_is_integer) : DFn P w K mg base 2 f fd p__law_is_case sp__law_is_case := by
  refine fun_okD F sc__law_is_case (fun ds M Q h => ?_) fun cdv A outer s H E hr hgd ds M Q h => ?_
  · obtain ⟨d, rfl, hw, _⟩ := h; rfl
  · obtain ⟨d, rfl, hw, k⟩ := h
    have hu := room64 hr
    have hu5 := room65 hr
    refine ⟨_, (dss_cons (ds_if (dt_w (dw_or (dt_not (dt_val (de_isi (t := .tuple) rfl T.b_isinstance rfl T.b_tuple (by decide +kernel) (dv 0)))) (dw_or (dt_rel (od_ne hu) (de_callB cd_len rfl T.b_len (by decide +kernel) (da_cons (dv 0) da_nil)) de_int) (dw_or1 (dt_not (dt_val (de_call c__law_is_integer hr hgd (da_cons (de_ix (dv 0) de_int) (da_cons de_int (da_cons de_int da_nil)))))))))) (dss_one (ds_ret de_bl)) dss_nil)
      (dss_cons (ds_asg (dv 0) (dg_tup (n := 5) rfl (dgs_cons (dg_name (i := 2) (vs := [2, 3, 4, 5, 6]) sc__law_is_case.nd rfl (by first | exact Or.inl rfl | exact Or.inr rfl) (by decide)) (dgs_cons (dg_name (i := 3) (vs := [2, 3, 4, 5, 6]) sc__law_is_case.nd rfl (by first | exact Or.inl rfl | exact Or.inr rfl) (by decide)) (dgs_cons (dg_name (i := 4) (vs := [2, 3, 4, 5, 6]) sc__law_is_case.nd rfl (by first | exact Or.inl rfl | exact Or.inr rfl) (by decide)) (dgs_cons (dg_name (i := 5) (vs := [2, 3, 4, 5, 6]) sc__law_is_case.nd rfl (by first | exact Or.inl rfl | exact Or.inr rfl) (by decide)) (dgs_cons (dg_name (i := 6) (vs := [2, 3, 4, 5, 6]) sc__law_is_case.nd rfl (by first | exact Or.inl rfl | exact Or.inr rfl) (by decide)) dgs_nil)))))))
      (dss_cons (ds_if (dt_w (dw_or (dt_not (dt_val (de_call c__law_is_integer hr hgd (da_cons (dv 3) (da_cons de_int (da_cons de_int da_nil)))))) (dw_or1 (dt_not (dt_val (de_call c__law_is_integer hr hgd (da_cons (dv 4) (da_cons de_int (da_cons de_int da_nil))))))))) (dss_one (ds_ret de_bl)) dss_nil)
      (dss_cons (ds_if (dt_w (dw_or (dt_not (dt_val (de_isi (t := .bool) rfl T.b_isinstance rfl T.b_bool (by decide +kernel) (dv 6)))) (dw_or1 (dt_not (dt_val (de_isi (t := .tuple) rfl T.b_isinstance rfl T.b_tuple (by decide +kernel) (dv 5))))))) (dss_one (ds_ret de_bl)) dss_nil)
      (dss_cons (ds_for PassesOwn.never rfl (di_seq (dv 5)) (dg_name (i := 1) (vs := [1]) sc__law_is_case.nd rfl (by first | exact Or.inl rfl | exact Or.inr rfl) (by decide)) (dss_cons (ds_if (dt_w (dw_or (dt_not (dt_val (de_isi (t := .tuple) rfl T.b_isinstance rfl T.b_tuple (by decide +kernel) (dv 1)))) (dw_or (dt_rel (od_ne hu) (de_callB cd_len rfl T.b_len (by decide +kernel) (da_cons (dv 1) da_nil)) de_int) (dw_or1 (dt_not (dt_val (de_call c__law_is_integer hr hgd (da_cons (de_ix (dv 1) de_int) (da_cons de_int (da_cons (de_bin od_sub (dv 4) de_int) da_nil)))))))))) (dss_one (ds_ret de_bl)) dss_nil)
      (dss_one (ds_if (dt_not (dt_val (de_call c__law_is_integer hr hgd (da_cons (de_ix (dv 1) de_int) (da_cons de_int (da_cons (de_bin od_sub (dv 3) de_int) da_nil)))))) (dss_one (ds_ret de_bl)) dss_nil))))
      (dss_one (ds_ret (de_rel (od_eq hu) (de_callTy cd_list rfl T.b_list (by decide +kernel) (da_cons (dv 5) da_nil)) (de_sortSet hu rfl rfl T.b_sorted rfl T.b_set (dv 5)))))))))), ?_⟩
    walk_at "dl"
    cases d with
    | tuple xs =>
      walk_at "dl"
      by_cases hl : xs.length = 5
      · obtain ⟨n, v, kd, t, j, rfl⟩ := list5 hl
        walk_at "dl"
        rw [if_neg (by decide)]
        simp only [isCase, isCaseL] at k
        refine ⟨n, 1, 3, rfl, ?_⟩
        cases h0 : isWithin n 1 3 <;> simp only [h0, Bool.false_and, Bool.true_and] at k <;> walk_at "dl"
        · exact k
        refine ⟨v, 1, 3, rfl, ?_⟩
        cases h1 : isWithin v 1 3 <;> simp only [h1, Bool.false_and, Bool.true_and] at k <;> walk_at "dl"
        · exact k
        refine ⟨kd, 1, 2, rfl, ?_⟩
        cases h2 : isWithin kd 1 2 <;> simp only [h2, Bool.false_and, Bool.true_and] at k <;> walk_at "dl"
        · exact k
        obtain ⟨v, rfl, v1, v2⟩ := within_int h1
        obtain ⟨kd, rfl, k1, k2⟩ := within_int h2
        cases j with
        | bool j =>
          walk_at "dl"
          cases t with
          | tuple ps =>
            walk_at "dl"
            simp only at k
            refine loopD_ind (fun rest δ M1 => M1 = M ∧ ∃ (i : Nat) (v6 : Option DV), rest = (ps.drop i).map .d ∧ δ = [some (.d (.tuple [n, .int v, .int kd, .tuple ps, .bool j])), v6, some (.d n), some (.d (.int v)), some (.d (.int kd)), some (.d (.tuple ps)), some (.d (.bool j))] ∧ ∀ p ∈ ps.take i, isPair p kd v = true) (fun _ _ _ _ => trivial) ?_ ?_ _ _ _ ⟨rfl, 0, _, rfl, rfl, by simp⟩
            · rintro δ M1 ⟨rfl, i, v6, hr, rfl, hall⟩
              rw [List.take_of_length_le (list_nil hr)] at hall
              have hall' : ps.all (fun p => isPair p kd v) = true := List.all_eq_true.mpr hall
              rw [hall', Bool.true_and] at k
              obtain ⟨ks, rfl, hks⟩ := pairs_ints hall (by omega) (by omega)
              have hfew := pairs_few hks
              simp only [wt, wtAll] at hw
              walk_at "dl"
              refine ⟨ks, 2, 64, .inr rfl, by omega, by decide, fun p hp => ?_, fun zs hz nd pw => ?_⟩
              · obtain ⟨a, b, rfl, a0, a1, b0, b1⟩ := hks p hp
                refine ⟨rfl, ?_⟩
                intro x hx
                simp only [List.mem_cons, List.not_mem_nil, or_false] at hx
                rcases hx with rfl | rfl
                · exact ⟨a0, a1⟩
                · exact ⟨b0, b1⟩
              · walk_at "dl"
                refine ⟨?_, ?_⟩
                · show (SeqAt.shaped _ && SeqAt.shaped _) = true
                  rw [shapedL_tups, shapedL_tups]; rfl
                · rw [rising_set hks hz nd pw]
                  exact k
            · rintro x rest δ M1 ⟨rfl, i, v6, hr, rfl, hall⟩ N hN
              obtain ⟨p, hp, hi, rfl, rfl⟩ := list_step hr
              have hpm : p ∈ ps := List.mem_of_getElem? hp
              have bad : isPair p kd v = false → Q (.d (.bool false)) M1 := fun hb => by
                have : ps.all (fun p => isPair p kd v) = false := by
                  rw [List.all_eq_false]
                  exact ⟨p, hpm, by rw [hb]; decide⟩
                rw [this, Bool.false_and] at k
                exact k
              have good : isPair p kd v = true → N [some (.d (.tuple [n, .int v, .int kd, .tuple ps, .bool j])), some (.d p), some (.d n), some (.d (.int v)), some (.d (.int kd)), some (.d (.tuple ps)), some (.d (.bool j))] M1 := fun hg => by
                refine hN _ _ ⟨rfl, i + 1, _, rfl, rfl, fun q hq => ?_⟩
                rw [List.take_add_one, hp] at hq
                rcases List.mem_append.mp hq with q1 | q1
                · exact hall q q1
                · simp at q1; subst q1; exact hg
              walk_at "dl"
              cases p with
              | tuple xs =>
                walk_at "dl"
                by_cases hl2 : xs.length = 2
                · obtain ⟨x, y, rfl⟩ := list2 hl2
                  walk_at "dl"
                  rw [if_neg (by decide)]
                  simp only [isPair] at bad good
                  refine ⟨x, 0, kd - 1, rfl, ?_⟩
                  cases g0 : isWithin x 0 (kd - 1) <;> simp only [g0, Bool.false_and, Bool.true_and] at bad good <;> walk_at "dl"
                  · exact bad trivial
                  refine ⟨y, 0, v - 1, rfl, ?_⟩
                  cases g1 : isWithin y 0 (v - 1) <;> simp only [g1] at bad good <;> walk_at "dl"
                  · exact bad trivial
                  · exact good trivial
                · have e : ((xs.length : Int) == 2) = false := by
                    have : (xs.length : Int) ≠ 2 := by omega
                    simpa using this
                  rw [e]
                  exact bad (isPair_no hl2)
              | _ => walk_at "dl"; exact bad rfl
          | _ => walk_at "dl"; simp only at k; exact k
        | _ => walk_at "dl"; cases t <;> (simp only at k; exact k)
      · have e : ((xs.length : Int) == 5) = false := by
          have : (xs.length : Int) ≠ 5 := by omega
          simpa using this
        rw [e]
        rw [isCase_no hl] at k
        exact k
    | _ => walk_at "dl"; exact k
abbrev s__law_near : Stmt := top 24
abbrev n__law_near : List Str := ["pen", "case", "way", "n", "values", "kinds", "test", "joint", "parts", "k", "some"]
abbrev p__law_near : List Str := ["pen", "case"]
theorem sc__law_near : FnScope n__law_near p__law_near (defScope s__law_near) := ⟨rfl, rfl, rfl, by decide +kernel, rfl, by decide +kernel, by decide +kernel⟩
theorem ok__law_near {f fd} (F : Fun K "_law_near" "_law_near" s__law_near f fd) (T : Txt K mg) (c__law_bent : Callee P w K mg base "_law_bent" 25 p__law_bent sp__law_bent) (c__law_one_of : Callee P w K mg base "_law_one_of" 3 p__law_one_of sp__law_one_of) (c__law_take : Callee P w K mg base "_law_take" 2 p__law_take sp__law_take) : DFn P w K mg base 26 f fd p__law_near sp__law_near := by
  refine fun_okD F sc__law_near (fun ds M Q h => ?_) fun cdv A outer s H E hr hgd ds M Q h => ?_
  · obtain ⟨a, n, v, kd, ps, j, m, mo, rfl, n1, n3, v1, v3, k1, k2, hps, hl9, hM, hp, hm, _⟩ := h; rfl
  · obtain ⟨a, n, v, kd, ps, j, m, mo, rfl, n1, n3, v1, v3, k1, k2, hps, hl9, hM, hp, hm, k⟩ := h
    have hu := room64 hr
    have hu5 := room65 hr
    refine ⟨_, (dss_cons (ds_asg (dv 1) (dg_tup (n := 5) rfl (dgs_cons (dg_name (i := 3) (vs := [3, 4, 5, 6, 7]) sc__law_near.nd rfl (by first | exact Or.inl rfl | exact Or.inr rfl) (by decide)) (dgs_cons (dg_name (i := 4) (vs := [3, 4, 5, 6, 7]) sc__law_near.nd rfl (by first | exact Or.inl rfl | exact Or.inr rfl) (by decide)) (dgs_cons (dg_name (i := 5) (vs := [3, 4, 5, 6, 7]) sc__law_near.nd rfl (by first | exact Or.inl rfl | exact Or.inr rfl) (by decide)) (dgs_cons (dg_name (i := 6) (vs := [3, 4, 5, 6, 7]) sc__law_near.nd rfl (by first | exact Or.inl rfl | exact Or.inr rfl) (by decide)) (dgs_cons (dg_name (i := 7) (vs := [3, 4, 5, 6, 7]) sc__law_near.nd rfl (by first | exact Or.inl rfl | exact Or.inr rfl) (by decide)) dgs_nil)))))))
      (dss_cons (ds_set (i := 2) sc__law_near.nd rfl (by first | exact Or.inl rfl | exact Or.inr rfl) (de_call c__law_take hr hgd (da_cons (dv 0) (da_cons de_int da_nil))))
      (dss_cons (ds_if (dt_rel od_lt (dv 2) de_int) (dss_cons (ds_set (i := 8) sc__law_near.nd rfl (by first | exact Or.inl rfl | exact Or.inr rfl) (de_callTy cd_listM rfl T.b_list (by decide +kernel) (da_cons (dv 1) da_nil)))
      (dss_cons (ds_for PassesOwn.never rfl (di_seq (de_lst (da_cons (dv 2) (da_cons (de_call c__law_one_of hr hgd (da_cons (dv 0) (da_cons (de_lst (da_cons (dv 2) (da_cons de_int (da_cons de_int (da_cons de_int da_nil))))) da_nil))) da_nil)))) (dg_name (i := 9) (vs := [9]) sc__law_near.nd rfl (by first | exact Or.inl rfl | exact Or.inr rfl) (by decide)) (dss_one (ds_setIx (de_call c__law_one_of hr hgd (da_cons (dv 0) (da_cons (de_lst (da_cons de_int (da_cons de_int (da_cons de_int (da_cons de_int (da_cons de_int (da_cons de_bl (da_cons de_non da_nil)))))))) da_nil))) (dv 8) (dv 9))))
      (dss_frz 8 (dss_one (ds_ret (de_callTy cd_tuple rfl T.b_tuple (by decide +kernel) (da_cons (dv 8) da_nil))))))) dss_nil)
      (dss_cons (ds_if (dt_rel (od_eq hu) (dv 2) de_int) (dss_cons (ds_set (i := 10) sc__law_near.nd rfl (by first | exact Or.inl rfl | exact Or.inr rfl) (de_lst (da_cons (de_rev (dv 6)) (da_cons (de_bin od_add (dv 6) (dv 6)) (da_cons (de_callTy cd_list rfl T.b_list (by decide +kernel) (da_cons (dv 6) da_nil)) (da_cons (de_tup (da_cons (de_tup (da_cons de_int (da_cons de_int da_nil))) (da_cons (de_tup (da_cons de_int (da_cons de_int da_nil))) da_nil))) (da_cons (de_tup (da_cons (de_tup (da_cons de_int da_nil)) da_nil)) (da_cons (de_tup da_nil) da_nil))))))))
      (dss_one (ds_ret (de_tup (da_cons (dv 3) (da_cons (dv 4) (da_cons (dv 5) (da_cons (de_call c__law_one_of hr hgd (da_cons (dv 0) (da_cons (dv 10) da_nil))) (da_cons (dv 7) da_nil))))))))) dss_nil)
      (dss_cons (ds_if (dt_rel (od_eq hu) (dv 2) de_int) (dss_cons (ds_set (i := 10) sc__law_near.nd rfl (by first | exact Or.inl rfl | exact Or.inr rfl) (de_lst (da_cons (de_tup (da_cons (de_tup (da_cons de_int (da_cons (dv 4) da_nil))) da_nil)) (da_cons (de_tup (da_cons (de_tup (da_cons (dv 5) (da_cons de_int da_nil))) da_nil)) (da_cons (de_tup (da_cons (de_tup (da_cons de_int (da_cons (de_neg de_int) da_nil))) da_nil)) (da_cons (de_tup (da_cons (de_tup (da_cons de_bl (da_cons de_int da_nil))) da_nil)) (da_cons (de_tup (da_cons (de_tup (da_cons de_int (da_cons de_bl da_nil))) da_nil)) (da_cons (de_tup (da_cons (de_tup (da_cons de_int (da_cons de_int da_nil))) (da_cons (de_tup (da_cons de_int (da_cons de_int da_nil))) da_nil))) (da_cons de_non da_nil)))))))))
      (dss_cons (ds_set (i := 10) sc__law_near.nd rfl (by first | exact Or.inl rfl | exact Or.inr rfl) (de_bin od_add (dv 10) (de_lst (da_cons (de_tup (da_cons (de_tup (da_cons (dv 5) (da_cons (dv 4) da_nil))) da_nil)) (da_cons (de_tup (da_cons (de_tup (da_cons (de_neg de_int) (da_cons (de_neg de_int) da_nil))) da_nil)) da_nil)))))
      (dss_one (ds_ret (de_tup (da_cons (dv 3) (da_cons (dv 4) (da_cons (dv 5) (da_cons (de_call c__law_one_of hr hgd (da_cons (dv 0) (da_cons (dv 10) da_nil))) (da_cons (dv 7) da_nil)))))))))) dss_nil)
      (dss_cons (ds_if (dt_rel (od_eq hu) (dv 2) de_int) (dss_one (ds_ret (de_bin od_add (de_slice (dv 1) do_none (do_some de_int)) (de_tup (da_cons (de_call c__law_one_of hr hgd (da_cons (dv 0) (da_cons (de_lst (da_cons de_int (da_cons de_int (da_cons de_non (da_cons (de_not (dv 7)) da_nil))))) da_nil))) da_nil))))) dss_nil)
      (dss_one (ds_ret (de_call c__law_bent hr hgd (da_cons (dv 0) (da_cons (dv 1) da_nil))))))))))), ?_⟩
    have hcase := nice_case (j := j) n1 n3 v1 v3 k1 k2 hps hl9
    have htest : NiceL 171 1 10 (ps.map tupI) := (nice_pairs (by omega) v3 hps.2).mono (by omega)
    have mk : ∀ t jj : PyData, Nice 800 5 90 t → Nice 20 5 90 jj → Nice 1000 6 100 (.tuple [.int n, .int v, .int kd, t, jj]) := fun t jj ht hj => by
      have q := nice_tuple (niceL_cons ((nice_tiny (i := n) (by omega) (by omega)).mono (W' := 5) (D' := 5) (B' := 90)) (niceL_cons ((nice_tiny (i := v) (by omega) (by omega)).mono (W' := 5) (D' := 5) (B' := 90)) (niceL_cons ((nice_tiny (i := kd) (by omega) (by omega)).mono (W' := 5) (D' := 5) (B' := 90)) (niceL_cons ht (niceL_cons hj (niceL_nil (W := 0) (D := 5) (B := 90)))))))
      exact q.mono
    unfold caseD at hcase ⊢
    walk_at "dl"
    refine take_go hM hp (by omega) (by decide) (by decide) fun way mo1 w0 w1 p1 => ?_
    walk_at "dl"
    by_cases c1 : way < 3
    · rw [if_pos (by simpa using c1)]
      intro p hpn
      have hpa : p ≠ a := ne_of_mem (M := mupd M a mo1) mupd_same hpn
      have hpM : M p = none := by rw [mupd_ne hpa] at hpn; exact hpn
      refine ⟨list_len (n := 4) (by decide), ?_⟩
      rw [mupd_comm (Ne.symm hpa)]
      refine one_go mupd_same p1 (by omega) (by simp) (by simp) fun x hx mo2 p2 => ?_
      rw [mupd_mupd]
      have hxi : ∃ i : Int, x = .int i ∧ 0 ≤ i ∧ i < 3 := by
        simp only [List.mem_cons, List.not_mem_nil, or_false] at hx
        rcases hx with rfl | rfl | rfl | rfl
        · exact ⟨_, rfl, by omega, by omega⟩
        · exact ⟨_, rfl, by omega, by omega⟩
        · exact ⟨_, rfl, by omega, by omega⟩
        · exact ⟨_, rfl, by omega, by omega⟩
      obtain ⟨xi, rfl, x0, x3⟩ := hxi
      walk_at "dl"
      refine ⟨list_len (n := 2) (by decide), ?_⟩
      refine loopD_ind (fun rest δ M1 => ∃ (mo3 : MO) (qs : List PyData) (v9 : Option DV), (∀ z ∈ rest, ∃ i : Int, z = .d (.int i) ∧ 0 ≤ i ∧ i < 3) ∧ rest.length ≤ 2 ∧ δ = [some (.r a), some (.d (.tuple [.int n, .int v, .int kd, .tuple (ps.map tupI), .bool j])), some (.d (.int way)), some (.d (.int n)), some (.d (.int v)), some (.d (.int kd)), some (.d (.tuple (ps.map tupI))), some (.d (.bool j)), some (.r p), v9, none] ∧
        M1 = mupd (mupd M p (.lst (qs.map .d))) a mo3 ∧ PenMO (m + 4 - rest.length) mo3 ∧ qs.length = 5 ∧ ∀ z ∈ qs, Nice 180 5 90 z) (fun _ _ _ _ => trivial) ?_ ?_ _ _ _ ⟨mo2, [.int n, .int v, .int kd, .tuple (ps.map tupI), .bool j], _, ?_, by simp, rfl, rfl, by simpa using p2, rfl, ?_⟩
      · rintro δ M1 ⟨mo3, qs, v9, _, _, rfl, rfl, p3, hl5, hqs⟩
        walk_at "dl"
        rw [mupd_ne hpa, mupd_same]
        walk_at "dl"
        rw [mupd_comm hpa, mdel_mupd (by rw [mupd_ne hpa]; exact hpM)]
        have q := niceL_all hqs
        rw [hl5] at q
        exact k _ mo3 (nice_tuple q).mono (p3.mono (by omega))
      · rintro x rest δ M1 ⟨mo3, qs, v9, hz, hlr, rfl, rfl, p3, hl5, hqs⟩ N hN
        obtain ⟨i, rfl, i0, i3⟩ := hz x (by simp)
        simp only [List.length_cons] at hlr p3
        walk_at "dl"
        refine ⟨list_len (n := 7) (by decide), ?_⟩
        refine one_go mupd_same p3 (by omega) (by decide) (by decide) fun y hy mo4 p4 => ?_
        rw [mupd_mupd, mupd_ne hpa, mupd_same]
        walk_at "dl"
        rw [List.length_map, ixN_nn i0 (by omega)]
        walk_at "dl"
        rw [mupd_comm hpa, mupd_mupd, mupd_comm (Ne.symm hpa), ← List.map_set]
        refine hN _ _ ⟨mo4, _, _, fun z hz' => hz z (by simp [hz']), by omega, rfl, rfl, p4.mono (by omega), by rw [List.length_set]; exact hl5, fun z hz' => ?_⟩
        rcases List.mem_or_eq_of_mem_set hz' with q | rfl
        · exact hqs z q
        · have h := List.all_eq_true (p := fun x => decide (wt x ≤ 20) && decide (x.depth ≤ 0) && fits 20 x).mp (by decide +kernel : List.all [PyData.int 0, .int 1, .int 2, .int 3, .int 4, .bool true, .none] (fun x => decide (wt x ≤ 20) && decide (x.depth ≤ 0) && fits 20 x) = true) z hy
          exact (nice_mk h).mono
      · intro z hz
        simp only [List.mem_cons, List.not_mem_nil, or_false] at hz
        rcases hz with rfl | rfl
        · exact ⟨_, rfl, w0, c1⟩
        · exact ⟨_, rfl, x0, x3⟩
      · intro z hz
        simp only [List.mem_cons, List.not_mem_nil, or_false] at hz
        rcases hz with rfl | rfl | rfl | rfl | rfl
        · exact (nice_tiny (by omega) (by omega)).mono
        · exact (nice_tiny (by omega) (by omega)).mono
        · exact (nice_tiny (by omega) (by omega)).mono
        · exact (nice_tuple htest).mono
        · exact nice_bool
    rw [if_neg (by simpa using c1)]
    have jok : ∀ b : Bool, Nice 20 5 90 (.bool b) := fun b => nice_bool
    by_cases c2 : way = 3
    · rw [if_pos (by simpa using c2)]
      refine ⟨list_len (by simp only [List.length_map]; omega), list_len (n := 2) (by decide), list_len (n := 2) (by decide), list_len (n := 2) (by decide), list_len (n := 1) (by decide), list_len (n := 1) (by decide), list_len (n := 0) (by decide), list_len (n := 6) (by decide), ?_⟩
      refine one_go mupd_same p1 (by omega) (by simp) (by simp) fun x hx mo2 p2 => ?_
      rw [mupd_mupd]
      walk_at "dl"
      refine ⟨list_len (n := 5) (by decide), k _ mo2 (mk x _ ?_ (jok j)) (p2.mono (by omega))⟩
      simp only [List.mem_cons, List.not_mem_nil, or_false] at hx
      rcases hx with rfl | rfl | rfl | rfl | rfl | rfl
      · exact (nice_tuple htest.rev).mono
      · exact (nice_tuple (niceL_append htest htest)).mono
      · exact (nice_list htest).mono
      · exact (nice_mk (W := 50) (D := 2) (B := 10) (by decide +kernel)).mono
      · exact (nice_mk (W := 50) (D := 2) (B := 10) (by decide +kernel)).mono
      · exact (nice_mk (W := 50) (D := 2) (B := 10) (by decide +kernel)).mono
    rw [if_neg (by simpa using c2)]
    by_cases c3 : way = 4
    · rw [if_pos (by simpa using c3)]
      have L1 := list_len (n := 1) (by decide)
      have L2 := list_len (n := 2) (by decide)
      refine ⟨L2, L1, L2, L1, L2, L1, L2, L1, L2, L1, L2, L2, L2, list_len (n := 7) (by decide), L2, L1, L2, L1, L2, list_len (n := 9) (by decide), ?_⟩
      refine one_go mupd_same p1 (by omega) (by simp) (by simp) fun x hx mo2 p2 => ?_
      rw [mupd_mupd]
      walk_at "dl"
      refine ⟨list_len (n := 5) (by decide), k _ mo2 (mk x _ ?_ (jok j)) (p2.mono (by omega))⟩
      have one : ∀ p : List Int, (∃ a b : Int, p = [a, b] ∧ -4 < a ∧ a < 4 ∧ -4 < b ∧ b < 4) → Nice 800 5 90 (.tuple [tupI p]) := by
        rintro p ⟨a, b, rfl, a0, a1, b0, b1⟩
        exact (nice_tuple (niceL_cons (nice_pair a0 a1 b0 b1) (niceL_nil (W := 0) (D := 1) (B := 10)))).mono
      simp only [List.mem_cons, List.not_mem_nil, or_false] at hx
      rcases hx with rfl | rfl | rfl | rfl | rfl | rfl | rfl | rfl | rfl
      · exact one [0, v] ⟨0, v, rfl, by omega, by omega, by omega, by omega⟩
      · exact one [kd, 0] ⟨kd, 0, rfl, by omega, by omega, by omega, by omega⟩
      · exact (nice_mk (W := 50) (D := 2) (B := 10) (by decide +kernel)).mono
      · exact (nice_mk (W := 50) (D := 2) (B := 10) (by decide +kernel)).mono
      · exact (nice_mk (W := 50) (D := 2) (B := 10) (by decide +kernel)).mono
      · exact (nice_mk (W := 50) (D := 2) (B := 10) (by decide +kernel)).mono
      · exact nice_none
      · exact one [kd, v] ⟨kd, v, rfl, by omega, by omega, by omega, by omega⟩
      · exact (nice_mk (W := 50) (D := 2) (B := 10) (by decide +kernel)).mono
    rw [if_neg (by simpa using c3)]
    by_cases c4 : way = 5
    · rw [if_pos (by simpa using c4)]
      refine ⟨list_len (n := 4) (by decide), ?_⟩
      refine one_go mupd_same p1 (by omega) (by simp) (by simp) fun x hx mo2 p2 => ?_
      rw [mupd_mupd]
      walk_at "dl"
      refine ⟨list_len (n := 1) (by decide), list_len (n := 5) (by decide), ?_⟩
      refine k _ mo2 (mk (.tuple (ps.map tupI)) x (nice_tuple htest).mono ?_) (p2.mono (by omega))
      simp only [List.mem_cons, List.not_mem_nil, or_false] at hx
      rcases hx with rfl | rfl | rfl | rfl
      · exact (nice_mk (W := 20) (D := 2) (B := 10) (by decide +kernel)).mono
      · exact (nice_mk (W := 20) (D := 2) (B := 10) (by decide +kernel)).mono
      · exact nice_none
      · exact jok _
    rw [if_neg (by simpa using c4)]
    refine bent_go mupd_same p1 (by omega) hcase (by omega) (by omega) (by omega) fun y mo2 hy p2 => ?_
    rw [mupd_mupd]
    exact k y mo2 hy.mono (p2.mono (by omega))
abbrev s_law : Stmt := top 25
abbrev n_law : List Str := ["script", "pen", "turn", "case", "some", "value", "state", "text", "kind", "again"]
abbrev p_law : List Str := ["script"]
theorem sc_law : FnScope n_law p_law (defScope s_law) := ⟨rfl, rfl, rfl, by decide +kernel, rfl, by decide +kernel, by decide +kernel⟩
theorem ok_law {f fd} (F : Fun K "law" "law" s_law f fd) (T : Txt K mg) (c__law_draw_case : Callee P w K mg base "_law_draw_case" 4 p__law_draw_case sp__law_draw_case) (c__law_is_case : Callee P w K mg base "_law_is_case" 2 p__law_is_case sp__law_is_case) (c__law_near : Callee P w K mg base "_law_near" 26 p__law_near sp__law_near) (c__law_open : Callee P w K mg base "_law_open" 1 p__law_open sp__law_open) (c__law_same : Callee P w K mg base "_law_same" 21 p__law_same sp__law_same) (c__law_value_ok : Callee P w K mg base "_law_value_ok" 1 p__law_value_ok sp__law_value_ok) (c_is_case : Callee P w K mg base "is_case" 4 p_is_case sp_is_case) (c_pair_passes : Callee P w K mg base "pair_passes" 1 p_pair_passes sp_pair_passes) (c_value_passes : Callee P w K mg base "value_passes" 1 p_value_passes sp_value_passes) : DFn P w K mg base 27 f fd p_law sp_law := by
  refine fun_okD F sc_law (fun ds M Q h => ?_) fun cdv A outer s H E hr hgd ds M Q h => ?_
  · obtain ⟨ns, rfl, hns, _⟩ := h; rfl
  · obtain ⟨ns, rfl, hns, k⟩ := h
    have hu := room64 hr
    have hu5 := room65 hr
    refine ⟨_, (dss_cons (ds_set (i := 1) sc_law.nd rfl (by first | exact Or.inl rfl | exact Or.inr rfl) (de_call c__law_open hr hgd (da_cons (dv 0) da_nil)))
      (dss_cons (ds_for PassesOwn.never rfl (di_range1 rfl T.b_range (da_cons de_int da_nil)) (dg_name (i := 2) (vs := [2]) sc_law.nd rfl (by first | exact Or.inl rfl | exact Or.inr rfl) (by decide)) (dss_cons (ds_set (i := 3) sc_law.nd rfl (by first | exact Or.inl rfl | exact Or.inr rfl) (de_call c__law_draw_case hr hgd (da_cons (dv 1) (da_cons (de_lst (da_cons (de_tup (da_cons de_int (da_cons de_int (da_cons de_int da_nil)))) (da_cons (de_tup (da_cons de_int (da_cons de_int (da_cons de_int da_nil)))) (da_cons (de_tup (da_cons de_int (da_cons de_int (da_cons de_int da_nil)))) (da_cons (de_tup (da_cons de_int (da_cons de_int (da_cons de_int da_nil)))) (da_cons (de_tup (da_cons de_int (da_cons de_int (da_cons de_int da_nil)))) (da_cons (de_tup (da_cons de_int (da_cons de_int (da_cons de_int da_nil)))) da_nil))))))) da_nil))))
      (dss_cons (ds_set (i := 4) sc_law.nd rfl (by first | exact Or.inl rfl | exact Or.inr rfl) (de_lst (da_cons (dv 3) (da_cons de_non (da_cons (de_tup da_nil) (da_cons (de_lst da_nil) (da_cons (de_callTy cd_list rfl T.b_list (by decide +kernel) (da_cons (dv 3) da_nil)) (da_cons (de_slice (dv 3) do_none (do_some de_int)) (da_cons (de_bin od_add (dv 3) (de_tup (da_cons de_int da_nil))) da_nil)))))))))
      (dss_cons (ds_for PassesOwn.never rfl (di_seq (de_bin od_add (dv 4) (de_lc (fin := finF) finF_ok rfl sc_law.nd (di_range1 rfl T.b_range (da_cons de_int da_nil)) (blkOk_by (own := [("again", 9)]) (N := n_law) (sc := defScope s_law) (by decide +kernel)) (gsim_name (i := 9) (by decide)) (fun _ _ _ _ _ => pg_name (i := 9) sc_law.nd rfl (by first | exact Or.inl rfl | exact Or.inr rfl)) (fun _ _ _ _ _ => dts_nil) (fun _ _ _ _ _ => (de_call c__law_near hr hgd (da_cons (dv 1) (da_cons (dv 3) da_nil))))))) (dg_name (i := 5) (vs := [5]) sc_law.nd rfl (by first | exact Or.inl rfl | exact Or.inr rfl) (by decide)) (dss_cons (ds_set (i := 7) sc_law.nd rfl (by first | exact Or.inl rfl | exact Or.inr rfl) (de_callB (cd_repr hgd hu) rfl T.b_repr (by decide +kernel) (da_cons (dv 5) da_nil)))
      (dss_one (ds_if (dt_w (dw_or (dt_not (dt_val (de_call c__law_same hr hgd (da_cons (de_call c_is_case hr hgd (da_cons (dv 5) da_nil)) (da_cons (de_call c__law_is_case hr hgd (da_cons (dv 5) da_nil)) da_nil))))) (dw_or1 (dt_rel (od_ne hu) (de_callB (cd_repr hgd hu) rfl T.b_repr (by decide +kernel) (da_cons (dv 5) da_nil)) (dv 7))))) (dss_one (ds_ret de_bl)) dss_nil))))
      (dss_one (ds_for PassesOwn.never rfl (di_range2 rfl T.b_range (da_cons (de_neg de_int) (da_cons (de_ix (dv 3) de_int) da_nil))) (dg_name (i := 6) (vs := [6]) sc_law.nd rfl (by first | exact Or.inl rfl | exact Or.inr rfl) (by decide)) (dss_cons (ds_if (dt_not (dt_val (de_call c__law_same hr hgd (da_cons (de_call c_value_passes hr hgd (da_cons (dv 3) (da_cons (dv 6) da_nil))) (da_cons (de_call c__law_value_ok hr hgd (da_cons (dv 3) (da_cons (dv 6) da_nil))) da_nil))))) (dss_one (ds_ret de_bl)) dss_nil)
      (dss_one (ds_for PassesOwn.never rfl (di_range1 rfl T.b_range (da_cons (de_ix (dv 3) de_int) da_nil)) (dg_name (i := 8) (vs := [8]) sc_law.nd rfl (by first | exact Or.inl rfl | exact Or.inr rfl) (by decide)) (dss_one (ds_if (dt_not (dt_val (de_call c__law_same hr hgd (da_cons (de_call c_pair_passes hr hgd (da_cons (dv 3) (da_cons (dv 8) (da_cons (dv 6) da_nil)))) (da_cons (de_rel (od_in hu5) (de_tup (da_cons (dv 8) (da_cons (dv 6) da_nil))) (de_ix (dv 3) de_int)) da_nil))))) (dss_one (ds_ret de_bl)) dss_nil)))))))))))
      (dss_one (ds_ret de_bl)))), ?_⟩
    walk_at "dl"
    refine ⟨ns, rfl, hns, fun a mo ha hp0 => ?_⟩
    walk_at "dl"
    refine ⟨by decide, by decide, ?_⟩
    refine loopD_ind (fun rest δ M' => ∃ (i : Nat) (mo' : MO) (v2 v3 v4 v5 v6 v7 v8 v9 : Option DV), rest = (rngD 0 2).drop i ∧ i ≤ 2 ∧ δ = [some (.s ns), some (.r a), v2, v3, v4, v5, v6, v7, v8, v9] ∧ M' a = some mo' ∧ PenMO (4000 * i) mo') (fun _ _ _ _ => trivial) ?_ ?_ _ _ _ ⟨0, mo, _, _, _, _, _, _, _, _, rfl, by omega, rfl, mupd_same, hp0⟩
    · rintro δ M' ⟨i, mo', v2, v3, v4, v5, v6, v7, v8, v9, hr, hi, rfl, hM, hp⟩
      walk_at "dl"
      exact k _
    · rintro x rest δ M' ⟨i, mo', v2, v3, v4, v5, v6, v7, v8, v9, hr, hi, rfl, hM, hp⟩ N hN
      obtain ⟨hi2, rfl, rfl⟩ := rng_step hr
      walk_at "dl"
      have L3 := list_len (n := 3) (by decide)
      refine ⟨L3, L3, L3, L3, L3, L3, list_len (n := 6) (by decide), ?_⟩
      refine draw_case_go (ss := shapes01) shapes01_ok hM hp (by omega) fun n v kd ps j mo1 n1 n3 v1 v3 k1 k2 hps hl9 p1 => ?_
      have hcase := nice_case (j := j) n1 n3 v1 v3 k1 k2 hps hl9
      unfold caseD at hcase ⊢
      walk_at "dl"
      have L0 := list_len (n := 0) (by decide)
      refine ⟨L0, L0, list_len (n := 1) (by decide), list_len (n := 6) (by decide), list_len (n := 7) (by decide), ?_⟩
      have hcx : ∀ V, 210 ≤ V → Nice V 3 70 (.tuple [.int n, .int v, .int kd, .tuple (ps.map tupI), .bool j]) := fun V hV => hcase.mono
      obtain ⟨_, _, hxs⟩ := nice_tuple_inv hcase
      have hsome : ∀ z ∈ [(.tuple [.int n, .int v, .int kd, .tuple (ps.map tupI), .bool j]), .none, .tuple [], .list [], .list [.int n, .int v, .int kd, .tuple (ps.map tupI), .bool j], .tuple (List.take 4 [.int n, .int v, .int kd, .tuple (ps.map tupI), .bool j]), .tuple [.int n, .int v, .int kd, .tuple (ps.map tupI), .bool j, .int 1]], Nice 1000 6 100 z := by
        intro z hz
        simp only [List.mem_cons, List.not_mem_nil, or_false] at hz
        rcases hz with rfl | rfl | rfl | rfl | rfl | rfl | rfl
        · exact hcase.mono
        · exact nice_none
        · exact (nice_mk (W := 50) (D := 2) (B := 10) (by decide +kernel)).mono
        · exact (nice_mk (W := 50) (D := 2) (B := 10) (by decide +kernel)).mono
        · exact (nice_list hxs).mono
        · exact (nice_tuple (hxs.sub (List.take_sublist 4 _))).mono
        · exact (nice_tuple (niceL_append hxs (niceL_cons ((nice_tiny (i := 1) (by decide) (by decide)).mono (W' := 5) (D' := 2) (B' := 70)) (niceL_nil (W := 0) (D := 2) (B := 70))))).mono
      refine lc_ind (rngD 0 12) (fun l acc M3 => ∃ mo2, M3 = mupd M' a mo2 ∧ PenMO (4000 * i + 11 + 300 * acc.length) mo2 ∧ acc.length + l.length = 12 ∧ ∀ z ∈ acc, Nice 1000 6 100 z) (fun R h => ?_) ⟨mo1, rfl, p1, rfl, by simp⟩ ?_ ?_
      · walk_at "dl"
        exact ⟨by decide, by decide, h⟩
      · rintro x l acc M3 D hD ⟨mo2, rfl, p2, hlen, hacc⟩
        simp only [List.length_cons] at hlen
        have hne := ne_of_mem (M := mupd M' a mo2) mupd_same hD
        refine ⟨list_lt (by omega), fun N3 hN3 => ?_⟩
        generalize MO.lst (acc.map DV.d) = L at hN3 ⊢
        walk_at "dl"
        refine near_go (n := n) (v := v) (k := kd) (ps := ps) (j := j) n1 n3 v1 v3 k1 k2 hps hl9 (mo := mo2) (by rw [mupd_ne (Ne.symm hne), mupd_same]) p2 (by omega) fun y mo3 hy p3 => ?_
        rw [mupd_comm hne, mupd_mupd]
        refine hN3 _ _ (by rw [mupd_ne hne] at hD ⊢; exact hD) ⟨mo3, rfl, by rw [List.length_append]; exact p3.mono (by simp; omega), by simp; omega, ?_⟩
        intro z hz
        rcases List.mem_append.mp hz with q | q
        · exact hacc z q
        · simp only [List.mem_cons, List.not_mem_nil, or_false] at q
          subst q
          exact hy
      · rintro acc M3 ⟨mo2, rfl, p2, hlen, hacc⟩
        simp only [List.length_nil, Nat.add_zero] at hlen
        generalize hsm : ([(.tuple [.int n, .int v, .int kd, .tuple (ps.map tupI), .bool j]), .none, .tuple [], .list [], .list [.int n, .int v, .int kd, .tuple (ps.map tupI), .bool j], .tuple (List.take 4 [.int n, .int v, .int kd, .tuple (ps.map tupI), .bool j]), .tuple [.int n, .int v, .int kd, .tuple (ps.map tupI), .bool j, .int 1]] : List PyData) = sm at hsome ⊢
        have hsl : sm.length = 7 := by rw [← hsm]; rfl
        clear hsm
        walk_at "dl"
        refine ⟨list_len (by omega), ?_⟩
        refine loopD_ind (fun rest δ M4 => M4 = mupd M' a mo2 ∧ ∃ (zs : List PyData) (v2 v4 v5 v6 v7 v8 v9 : Option DV), rest = zs.map .d ∧ (∀ z ∈ zs, Nice 1000 6 100 z) ∧ δ = [some (.s ns), some (.r a), v2, some (.d (.tuple [.int n, .int v, .int kd, .tuple (ps.map tupI), .bool j])), v4, v5, v6, v7, v8, v9]) (fun _ _ _ _ => trivial) ?_ ?_ _ _ _ ⟨rfl, sm ++ acc, _, _, _, _, _, _, _, rfl, ?_, rfl⟩
        · rintro δ M4 ⟨rfl, zs, v2, v4, v5, v6, v7, v8, v9, _, _, rfl⟩
          walk_at "dl"
          refine ⟨⟨by decide, by decide, by omega, by omega⟩, ?_⟩
          refine loopD_ind (fun rest δ M5 => M5 = mupd M' a mo2 ∧ ∃ (jj : Nat) (v2 v4 v5 v6 v7 v8 v9 : Option DV), rest = (rngD (-1) (v - -1).toNat).drop jj ∧ δ = [some (.s ns), some (.r a), v2, some (.d (.tuple [.int n, .int v, .int kd, .tuple (ps.map tupI), .bool j])), v4, v5, v6, v7, v8, v9]) (fun _ _ _ _ => trivial) ?_ ?_ _ _ _ ⟨rfl, 0, _, _, _, _, _, _, _, rfl, rfl⟩
          · rintro δ M5 ⟨rfl, jj, v2, v4, v5, v6, v7, v8, v9, _, rfl⟩
            exact hN _ _ ⟨i + 1, mo2, _, _, _, _, _, _, _, _, rfl, by omega, rfl, mupd_same, p2.mono (by omega)⟩
          · rintro x rest δ M5 ⟨rfl, jj, v2, v4, v5, v6, v7, v8, v9, hr5, rfl⟩ N5 hN5
            obtain ⟨hj5, rfl, rfl⟩ := rng_step hr5
            generalize hst : (-1 : Int) + (jj : Int) = st
            walk_at "dl"
            refine ⟨n, v, kd, ps, j, st, rfl, hps, n, v, kd, ps, j, st, rfl, hps, ?_⟩
            refine same_go (x := .bool (passV ps st)) rfl rfl trivial ?_
            walk_at "dl"
            refine ⟨by omega, by omega, ?_⟩
            refine loopD_ind (fun rest δ M6 => M6 = mupd M' a mo2 ∧ ∃ (ii : Nat) (v2 v4 v5 v7 v8 v9 : Option DV), rest = (rngD 0 kd.toNat).drop ii ∧ δ = [some (.s ns), some (.r a), v2, some (.d (.tuple [.int n, .int v, .int kd, .tuple (ps.map tupI), .bool j])), v4, v5, some (.d (.int st)), v7, v8, v9]) (fun _ _ _ _ => trivial) ?_ ?_ _ _ _ ⟨rfl, 0, _, _, _, _, _, _, rfl, rfl⟩
            · rintro δ M6 ⟨rfl, ii, v2, v4, v5, v7, v8, v9, _, rfl⟩
              exact hN5 _ _ ⟨rfl, jj + 1, _, _, _, _, _, _, _, rfl, rfl⟩
            · rintro x rest δ M6 ⟨rfl, ii, v2, v4, v5, v7, v8, v9, hr6, rfl⟩ N6 hN6
              obtain ⟨hi6, rfl, rfl⟩ := rng_step hr6
              generalize hki : (0 : Int) + (ii : Int) = ki
              walk_at "dl"
              refine ⟨n, v, kd, ps, j, ki, st, rfl, list_len (n := 2) (by decide), shaped_tupI [ki, st], shapedT_tups ps, ?_⟩
              refine same_go (x := .bool (passP ps ki st)) rfl (by
                show some (PyData.bool _) = some (PyData.bool _)
                rw [List.any_map]; rfl) trivial ?_
              walk_at "dl"
              exact hN6 _ _ ⟨rfl, ii + 1, _, _, _, _, _, _, rfl, rfl⟩
        · rintro x rest δ M4 ⟨rfl, zs, v2, v4, v5, v6, v7, v8, v9, hzs, hzn, rfl⟩ N4 hN4
          obtain ⟨z, zs', rfl, rfl, rfl⟩ := items_step hzs
          have hz := hzn z (by simp)
          have hsh : Showy z := hz.showy
          walk_at "dl"
          refine ⟨hsh, z, rfl, lenOk_nice hz (by decide), z, rfl, hz.w, ?_⟩
          refine same_go (x := .bool (isCase z)) rfl rfl trivial ?_
          walk_at "dl"
          refine ⟨hsh, hN4 _ _ ⟨rfl, zs', _, _, _, _, _, _, _, rfl, fun w hw => hzn w (by simp [hw]), rfl⟩⟩
        · intro z hz
          rcases List.mem_append.mp hz with q | q
          · exact hsome z q
          · exact hacc z q
end
theorem all_mk {l : PySem.W.OpenLaw} {w : World} {K : PySem.W.Frag} {h : Heap} {mg : Str → Option Value} {fa : Addr} (X : K.In h) (G : h.Ns mainGlobals mg) (hfa : mg "law" = some (.ref fa))
    {f_is_integer : Addr} {od_is_integer an_is_integer : Option Addr} {sl_is_integer : Array (Option Value)} {oc_is_integer kV_is_integer dc_is_integer pm_is_integer cd_is_integer ct_is_integer : Value}
    {f_is_within : Addr} {od_is_within an_is_within : Option Addr} {sl_is_within : Array (Option Value)} {oc_is_within kV_is_within dc_is_within pm_is_within cd_is_within ct_is_within : Value}
    {f_is_pair : Addr} {od_is_pair an_is_pair : Option Addr} {sl_is_pair : Array (Option Value)} {oc_is_pair kV_is_pair dc_is_pair pm_is_pair cd_is_pair ct_is_pair : Value}
    {f_is_rising : Addr} {od_is_rising an_is_rising : Option Addr} {sl_is_rising : Array (Option Value)} {oc_is_rising kV_is_rising dc_is_rising pm_is_rising cd_is_rising ct_is_rising : Value}
    {f_is_case : Addr} {od_is_case an_is_case : Option Addr} {sl_is_case : Array (Option Value)} {oc_is_case kV_is_case dc_is_case pm_is_case cd_is_case ct_is_case : Value}
    {f_value_passes : Addr} {od_value_passes an_value_passes : Option Addr} {sl_value_passes : Array (Option Value)} {oc_value_passes kV_value_passes dc_value_passes pm_value_passes cd_value_passes ct_value_passes : Value}
    {f_pair_passes : Addr} {od_pair_passes an_pair_passes : Option Addr} {sl_pair_passes : Array (Option Value)} {oc_pair_passes kV_pair_passes dc_pair_passes pm_pair_passes cd_pair_passes ct_pair_passes : Value}
    {f__law_open : Addr} {od__law_open an__law_open : Option Addr} {sl__law_open : Array (Option Value)} {oc__law_open kV__law_open dc__law_open pm__law_open cd__law_open ct__law_open : Value}
    {f__law_spread : Addr} {od__law_spread an__law_spread : Option Addr} {sl__law_spread : Array (Option Value)} {oc__law_spread kV__law_spread dc__law_spread pm__law_spread cd__law_spread ct__law_spread : Value}
    {f__law_take : Addr} {od__law_take an__law_take : Option Addr} {sl__law_take : Array (Option Value)} {oc__law_take kV__law_take dc__law_take pm__law_take cd__law_take ct__law_take : Value}
    {f__law_same : Addr} {od__law_same an__law_same : Option Addr} {sl__law_same : Array (Option Value)} {oc__law_same kV__law_same dc__law_same pm__law_same cd__law_same ct__law_same : Value}
    {f__law_one_of : Addr} {od__law_one_of an__law_one_of : Option Addr} {sl__law_one_of : Array (Option Value)} {oc__law_one_of kV__law_one_of dc__law_one_of pm__law_one_of cd__law_one_of ct__law_one_of : Value}
    {f__law_is_integer : Addr} {od__law_is_integer an__law_is_integer : Option Addr} {sl__law_is_integer : Array (Option Value)} {oc__law_is_integer kV__law_is_integer dc__law_is_integer pm__law_is_integer cd__law_is_integer ct__law_is_integer : Value}
    {f__law_odd : Addr} {od__law_odd an__law_odd : Option Addr} {sl__law_odd : Array (Option Value)} {oc__law_odd kV__law_odd dc__law_odd pm__law_odd cd__law_odd ct__law_odd : Value}
    {f__law_bent : Addr} {od__law_bent an__law_bent : Option Addr} {sl__law_bent : Array (Option Value)} {oc__law_bent kV__law_bent dc__law_bent pm__law_bent cd__law_bent ct__law_bent : Value}
    {f__law_draw_test : Addr} {od__law_draw_test an__law_draw_test : Option Addr} {sl__law_draw_test : Array (Option Value)} {oc__law_draw_test kV__law_draw_test dc__law_draw_test pm__law_draw_test cd__law_draw_test ct__law_draw_test : Value}
    {f__law_draw_case : Addr} {od__law_draw_case an__law_draw_case : Option Addr} {sl__law_draw_case : Array (Option Value)} {oc__law_draw_case kV__law_draw_case dc__law_draw_case pm__law_draw_case cd__law_draw_case ct__law_draw_case : Value}
    {f__law_value_ok : Addr} {od__law_value_ok an__law_value_ok : Option Addr} {sl__law_value_ok : Array (Option Value)} {oc__law_value_ok kV__law_value_ok dc__law_value_ok pm__law_value_ok cd__law_value_ok ct__law_value_ok : Value}
    {f__law_is_case : Addr} {od__law_is_case an__law_is_case : Option Addr} {sl__law_is_case : Array (Option Value)} {oc__law_is_case kV__law_is_case dc__law_is_case pm__law_is_case cd__law_is_case ct__law_is_case : Value}
    {f__law_near : Addr} {od__law_near an__law_near : Option Addr} {sl__law_near : Array (Option Value)} {oc__law_near kV__law_near dc__law_near pm__law_near cd__law_near ct__law_near : Value}
    {f_law : Addr} {od_law an_law : Option Addr} {sl_law : Array (Option Value)} {oc_law kV_law dc_law pm_law cd_law ct_law : Value}
    (a_is_integer : PySem.W.nsIn K mainGlobals "is_integer" = some (some (.ref f_is_integer))) (l_is_integer : K.lookup f_is_integer = some ⟨oc_is_integer, od_is_integer, .func (PySem.W.fnOf "is_integer" "is_integer" (defArgs s_is_integer) (defBody s_is_integer) (defScope s_is_integer) .none kV_is_integer dc_is_integer pm_is_integer an_is_integer cd_is_integer ct_is_integer), sl_is_integer⟩) (c_is_integer : PySem.W.codeIn K cd_is_integer "is_integer" = true) (k_is_integer : PySem.W.keepIn K (.ref f_is_integer) = true)
    (a_is_within : PySem.W.nsIn K mainGlobals "is_within" = some (some (.ref f_is_within))) (l_is_within : K.lookup f_is_within = some ⟨oc_is_within, od_is_within, .func (PySem.W.fnOf "is_within" "is_within" (defArgs s_is_within) (defBody s_is_within) (defScope s_is_within) .none kV_is_within dc_is_within pm_is_within an_is_within cd_is_within ct_is_within), sl_is_within⟩) (c_is_within : PySem.W.codeIn K cd_is_within "is_within" = true) (k_is_within : PySem.W.keepIn K (.ref f_is_within) = true)
    (a_is_pair : PySem.W.nsIn K mainGlobals "is_pair" = some (some (.ref f_is_pair))) (l_is_pair : K.lookup f_is_pair = some ⟨oc_is_pair, od_is_pair, .func (PySem.W.fnOf "is_pair" "is_pair" (defArgs s_is_pair) (defBody s_is_pair) (defScope s_is_pair) .none kV_is_pair dc_is_pair pm_is_pair an_is_pair cd_is_pair ct_is_pair), sl_is_pair⟩) (c_is_pair : PySem.W.codeIn K cd_is_pair "is_pair" = true) (k_is_pair : PySem.W.keepIn K (.ref f_is_pair) = true)
    (a_is_rising : PySem.W.nsIn K mainGlobals "is_rising" = some (some (.ref f_is_rising))) (l_is_rising : K.lookup f_is_rising = some ⟨oc_is_rising, od_is_rising, .func (PySem.W.fnOf "is_rising" "is_rising" (defArgs s_is_rising) (defBody s_is_rising) (defScope s_is_rising) .none kV_is_rising dc_is_rising pm_is_rising an_is_rising cd_is_rising ct_is_rising), sl_is_rising⟩) (c_is_rising : PySem.W.codeIn K cd_is_rising "is_rising" = true) (k_is_rising : PySem.W.keepIn K (.ref f_is_rising) = true)
    (a_is_case : PySem.W.nsIn K mainGlobals "is_case" = some (some (.ref f_is_case))) (l_is_case : K.lookup f_is_case = some ⟨oc_is_case, od_is_case, .func (PySem.W.fnOf "is_case" "is_case" (defArgs s_is_case) (defBody s_is_case) (defScope s_is_case) .none kV_is_case dc_is_case pm_is_case an_is_case cd_is_case ct_is_case), sl_is_case⟩) (c_is_case : PySem.W.codeIn K cd_is_case "is_case" = true) (k_is_case : PySem.W.keepIn K (.ref f_is_case) = true)
    (a_value_passes : PySem.W.nsIn K mainGlobals "value_passes" = some (some (.ref f_value_passes))) (l_value_passes : K.lookup f_value_passes = some ⟨oc_value_passes, od_value_passes, .func (PySem.W.fnOf "value_passes" "value_passes" (defArgs s_value_passes) (defBody s_value_passes) (defScope s_value_passes) .none kV_value_passes dc_value_passes pm_value_passes an_value_passes cd_value_passes ct_value_passes), sl_value_passes⟩) (c_value_passes : PySem.W.codeIn K cd_value_passes "value_passes" = true) (k_value_passes : PySem.W.keepIn K (.ref f_value_passes) = true)
    (a_pair_passes : PySem.W.nsIn K mainGlobals "pair_passes" = some (some (.ref f_pair_passes))) (l_pair_passes : K.lookup f_pair_passes = some ⟨oc_pair_passes, od_pair_passes, .func (PySem.W.fnOf "pair_passes" "pair_passes" (defArgs s_pair_passes) (defBody s_pair_passes) (defScope s_pair_passes) .none kV_pair_passes dc_pair_passes pm_pair_passes an_pair_passes cd_pair_passes ct_pair_passes), sl_pair_passes⟩) (c_pair_passes : PySem.W.codeIn K cd_pair_passes "pair_passes" = true) (k_pair_passes : PySem.W.keepIn K (.ref f_pair_passes) = true)
    (a__law_open : PySem.W.nsIn K mainGlobals "_law_open" = some (some (.ref f__law_open))) (l__law_open : K.lookup f__law_open = some ⟨oc__law_open, od__law_open, .func (PySem.W.fnOf "_law_open" "_law_open" (defArgs s__law_open) (defBody s__law_open) (defScope s__law_open) .none kV__law_open dc__law_open pm__law_open an__law_open cd__law_open ct__law_open), sl__law_open⟩) (c__law_open : PySem.W.codeIn K cd__law_open "_law_open" = true) (k__law_open : PySem.W.keepIn K (.ref f__law_open) = true)
    (a__law_spread : PySem.W.nsIn K mainGlobals "_law_spread" = some (some (.ref f__law_spread))) (l__law_spread : K.lookup f__law_spread = some ⟨oc__law_spread, od__law_spread, .func (PySem.W.fnOf "_law_spread" "_law_spread" (defArgs s__law_spread) (defBody s__law_spread) (defScope s__law_spread) .none kV__law_spread dc__law_spread pm__law_spread an__law_spread cd__law_spread ct__law_spread), sl__law_spread⟩) (c__law_spread : PySem.W.codeIn K cd__law_spread "_law_spread" = true) (k__law_spread : PySem.W.keepIn K (.ref f__law_spread) = true)
    (a__law_take : PySem.W.nsIn K mainGlobals "_law_take" = some (some (.ref f__law_take))) (l__law_take : K.lookup f__law_take = some ⟨oc__law_take, od__law_take, .func (PySem.W.fnOf "_law_take" "_law_take" (defArgs s__law_take) (defBody s__law_take) (defScope s__law_take) .none kV__law_take dc__law_take pm__law_take an__law_take cd__law_take ct__law_take), sl__law_take⟩) (c__law_take : PySem.W.codeIn K cd__law_take "_law_take" = true) (k__law_take : PySem.W.keepIn K (.ref f__law_take) = true)
    (a__law_same : PySem.W.nsIn K mainGlobals "_law_same" = some (some (.ref f__law_same))) (l__law_same : K.lookup f__law_same = some ⟨oc__law_same, od__law_same, .func (PySem.W.fnOf "_law_same" "_law_same" (defArgs s__law_same) (defBody s__law_same) (defScope s__law_same) .none kV__law_same dc__law_same pm__law_same an__law_same cd__law_same ct__law_same), sl__law_same⟩) (c__law_same : PySem.W.codeIn K cd__law_same "_law_same" = true) (k__law_same : PySem.W.keepIn K (.ref f__law_same) = true)
    (a__law_one_of : PySem.W.nsIn K mainGlobals "_law_one_of" = some (some (.ref f__law_one_of))) (l__law_one_of : K.lookup f__law_one_of = some ⟨oc__law_one_of, od__law_one_of, .func (PySem.W.fnOf "_law_one_of" "_law_one_of" (defArgs s__law_one_of) (defBody s__law_one_of) (defScope s__law_one_of) .none kV__law_one_of dc__law_one_of pm__law_one_of an__law_one_of cd__law_one_of ct__law_one_of), sl__law_one_of⟩) (c__law_one_of : PySem.W.codeIn K cd__law_one_of "_law_one_of" = true) (k__law_one_of : PySem.W.keepIn K (.ref f__law_one_of) = true)
    (a__law_is_integer : PySem.W.nsIn K mainGlobals "_law_is_integer" = some (some (.ref f__law_is_integer))) (l__law_is_integer : K.lookup f__law_is_integer = some ⟨oc__law_is_integer, od__law_is_integer, .func (PySem.W.fnOf "_law_is_integer" "_law_is_integer" (defArgs s__law_is_integer) (defBody s__law_is_integer) (defScope s__law_is_integer) .none kV__law_is_integer dc__law_is_integer pm__law_is_integer an__law_is_integer cd__law_is_integer ct__law_is_integer), sl__law_is_integer⟩) (c__law_is_integer : PySem.W.codeIn K cd__law_is_integer "_law_is_integer" = true) (k__law_is_integer : PySem.W.keepIn K (.ref f__law_is_integer) = true)
    (a__law_odd : PySem.W.nsIn K mainGlobals "_law_odd" = some (some (.ref f__law_odd))) (l__law_odd : K.lookup f__law_odd = some ⟨oc__law_odd, od__law_odd, .func (PySem.W.fnOf "_law_odd" "_law_odd" (defArgs s__law_odd) (defBody s__law_odd) (defScope s__law_odd) .none kV__law_odd dc__law_odd pm__law_odd an__law_odd cd__law_odd ct__law_odd), sl__law_odd⟩) (c__law_odd : PySem.W.codeIn K cd__law_odd "_law_odd" = true) (k__law_odd : PySem.W.keepIn K (.ref f__law_odd) = true)
    (a__law_bent : PySem.W.nsIn K mainGlobals "_law_bent" = some (some (.ref f__law_bent))) (l__law_bent : K.lookup f__law_bent = some ⟨oc__law_bent, od__law_bent, .func (PySem.W.fnOf "_law_bent" "_law_bent" (defArgs s__law_bent) (defBody s__law_bent) (defScope s__law_bent) .none kV__law_bent dc__law_bent pm__law_bent an__law_bent cd__law_bent ct__law_bent), sl__law_bent⟩) (c__law_bent : PySem.W.codeIn K cd__law_bent "_law_bent" = true) (k__law_bent : PySem.W.keepIn K (.ref f__law_bent) = true)
    (a__law_draw_test : PySem.W.nsIn K mainGlobals "_law_draw_test" = some (some (.ref f__law_draw_test))) (l__law_draw_test : K.lookup f__law_draw_test = some ⟨oc__law_draw_test, od__law_draw_test, .func (PySem.W.fnOf "_law_draw_test" "_law_draw_test" (defArgs s__law_draw_test) (defBody s__law_draw_test) (defScope s__law_draw_test) .none kV__law_draw_test dc__law_draw_test pm__law_draw_test an__law_draw_test cd__law_draw_test ct__law_draw_test), sl__law_draw_test⟩) (c__law_draw_test : PySem.W.codeIn K cd__law_draw_test "_law_draw_test" = true) (k__law_draw_test : PySem.W.keepIn K (.ref f__law_draw_test) = true)
    (a__law_draw_case : PySem.W.nsIn K mainGlobals "_law_draw_case" = some (some (.ref f__law_draw_case))) (l__law_draw_case : K.lookup f__law_draw_case = some ⟨oc__law_draw_case, od__law_draw_case, .func (PySem.W.fnOf "_law_draw_case" "_law_draw_case" (defArgs s__law_draw_case) (defBody s__law_draw_case) (defScope s__law_draw_case) .none kV__law_draw_case dc__law_draw_case pm__law_draw_case an__law_draw_case cd__law_draw_case ct__law_draw_case), sl__law_draw_case⟩) (c__law_draw_case : PySem.W.codeIn K cd__law_draw_case "_law_draw_case" = true) (k__law_draw_case : PySem.W.keepIn K (.ref f__law_draw_case) = true)
    (a__law_value_ok : PySem.W.nsIn K mainGlobals "_law_value_ok" = some (some (.ref f__law_value_ok))) (l__law_value_ok : K.lookup f__law_value_ok = some ⟨oc__law_value_ok, od__law_value_ok, .func (PySem.W.fnOf "_law_value_ok" "_law_value_ok" (defArgs s__law_value_ok) (defBody s__law_value_ok) (defScope s__law_value_ok) .none kV__law_value_ok dc__law_value_ok pm__law_value_ok an__law_value_ok cd__law_value_ok ct__law_value_ok), sl__law_value_ok⟩) (c__law_value_ok : PySem.W.codeIn K cd__law_value_ok "_law_value_ok" = true) (k__law_value_ok : PySem.W.keepIn K (.ref f__law_value_ok) = true)
    (a__law_is_case : PySem.W.nsIn K mainGlobals "_law_is_case" = some (some (.ref f__law_is_case))) (l__law_is_case : K.lookup f__law_is_case = some ⟨oc__law_is_case, od__law_is_case, .func (PySem.W.fnOf "_law_is_case" "_law_is_case" (defArgs s__law_is_case) (defBody s__law_is_case) (defScope s__law_is_case) .none kV__law_is_case dc__law_is_case pm__law_is_case an__law_is_case cd__law_is_case ct__law_is_case), sl__law_is_case⟩) (c__law_is_case : PySem.W.codeIn K cd__law_is_case "_law_is_case" = true) (k__law_is_case : PySem.W.keepIn K (.ref f__law_is_case) = true)
    (a__law_near : PySem.W.nsIn K mainGlobals "_law_near" = some (some (.ref f__law_near))) (l__law_near : K.lookup f__law_near = some ⟨oc__law_near, od__law_near, .func (PySem.W.fnOf "_law_near" "_law_near" (defArgs s__law_near) (defBody s__law_near) (defScope s__law_near) .none kV__law_near dc__law_near pm__law_near an__law_near cd__law_near ct__law_near), sl__law_near⟩) (c__law_near : PySem.W.codeIn K cd__law_near "_law_near" = true) (k__law_near : PySem.W.keepIn K (.ref f__law_near) = true)
    (a_law : PySem.W.nsIn K mainGlobals "law" = some (some (.ref f_law))) (l_law : K.lookup f_law = some ⟨oc_law, od_law, .func (PySem.W.fnOf "law" "law" (defArgs s_law) (defBody s_law) (defScope s_law) .none kV_law dc_law pm_law an_law cd_law ct_law), sl_law⟩) (c_law : PySem.W.codeIn K cd_law "law" = true) (k_law : PySem.W.keepIn K (.ref f_law) = true)
    (z_all : PySem.W.nsIn K mainGlobals "all" = some none)
    (z_any : PySem.W.nsIn K mainGlobals "any" = some none)
    (z_bool : PySem.W.nsIn K mainGlobals "bool" = some none)
    (z_enumerate : PySem.W.nsIn K mainGlobals "enumerate" = some none)
    (z_int : PySem.W.nsIn K mainGlobals "int" = some none)
    (z_isinstance : PySem.W.nsIn K mainGlobals "isinstance" = some none)
    (z_len : PySem.W.nsIn K mainGlobals "len" = some none)
    (z_list : PySem.W.nsIn K mainGlobals "list" = some none)
    (z_range : PySem.W.nsIn K mainGlobals "range" = some none)
    (z_repr : PySem.W.nsIn K mainGlobals "repr" = some none)
    (z_set : PySem.W.nsIn K mainGlobals "set" = some none)
    (z_sorted : PySem.W.nsIn K mainGlobals "sorted" = some none)
    (z_str : PySem.W.nsIn K mainGlobals "str" = some none)
    (z_tuple : PySem.W.nsIn K mainGlobals "tuple" = some none)
    (z_zip : PySem.W.nsIn K mainGlobals "zip" = some none)
    {t_MOST_KINDS : Tok} (g_MOST_KINDS : PySem.W.nsIn K mainGlobals "MOST_KINDS" = some (some (.int (2) t_MOST_KINDS)))
    {t_MOST_PARENTS : Tok} (g_MOST_PARENTS : PySem.W.nsIn K mainGlobals "MOST_PARENTS" = some (some (.int (3) t_MOST_PARENTS)))
    {t_MOST_VALUES : Tok} (g_MOST_VALUES : PySem.W.nsIn K mainGlobals "MOST_VALUES" = some (some (.int (3) t_MOST_VALUES)))
    : ∃ fd : FuncData, (∀ (s : Shared) (v : Value), BindsTo s fd ⟨[v], []⟩ [("script", v)]) ∧ ∀ base : Heap, K.In base → base.Ns mainGlobals mg → DFn l.prog w K mg base 27 fa fd ["script"] (spLaw 63) := by
  have e := hfa.symm.trans (PySem.W.mg_of X G a_law)
  cases e
  have T : Txt K mg := ⟨PySem.W.mg_none_of X G z_all, PySem.W.mg_none_of X G z_any, PySem.W.mg_none_of X G z_bool, PySem.W.mg_none_of X G z_enumerate, PySem.W.mg_none_of X G z_int, PySem.W.mg_none_of X G z_isinstance, PySem.W.mg_none_of X G z_len, PySem.W.mg_none_of X G z_list, PySem.W.mg_none_of X G z_range, PySem.W.mg_none_of X G z_repr, PySem.W.mg_none_of X G z_set, PySem.W.mg_none_of X G z_sorted, PySem.W.mg_none_of X G z_str, PySem.W.mg_none_of X G z_tuple, PySem.W.mg_none_of X G z_zip, ⟨t_MOST_KINDS, PySem.W.mg_of X G g_MOST_KINDS⟩, ⟨t_MOST_PARENTS, PySem.W.mg_of X G g_MOST_PARENTS⟩, ⟨t_MOST_VALUES, PySem.W.mg_of X G g_MOST_VALUES⟩⟩
  have F_is_integer := fun_mk (st := s_is_integer) l_is_integer c_is_integer k_is_integer
  have m_is_integer := PySem.W.mg_of X G a_is_integer
  have b_is_integer := F_is_integer.binds (ps := p_is_integer) fun _ _ _ _ _ _ us hl => match us, hl with | [_], _ => rfl
  have F_is_within := fun_mk (st := s_is_within) l_is_within c_is_within k_is_within
  have m_is_within := PySem.W.mg_of X G a_is_within
  have b_is_within := F_is_within.binds (ps := p_is_within) fun _ _ _ _ _ _ us hl => match us, hl with | [_, _, _], _ => rfl
  have F_is_pair := fun_mk (st := s_is_pair) l_is_pair c_is_pair k_is_pair
  have m_is_pair := PySem.W.mg_of X G a_is_pair
  have b_is_pair := F_is_pair.binds (ps := p_is_pair) fun _ _ _ _ _ _ us hl => match us, hl with | [_, _, _], _ => rfl
  have F_is_rising := fun_mk (st := s_is_rising) l_is_rising c_is_rising k_is_rising
  have m_is_rising := PySem.W.mg_of X G a_is_rising
  have b_is_rising := F_is_rising.binds (ps := p_is_rising) fun _ _ _ _ _ _ us hl => match us, hl with | [_], _ => rfl
  have F_is_case := fun_mk (st := s_is_case) l_is_case c_is_case k_is_case
  have m_is_case := PySem.W.mg_of X G a_is_case
  have b_is_case := F_is_case.binds (ps := p_is_case) fun _ _ _ _ _ _ us hl => match us, hl with | [_], _ => rfl
  have F_value_passes := fun_mk (st := s_value_passes) l_value_passes c_value_passes k_value_passes
  have m_value_passes := PySem.W.mg_of X G a_value_passes
  have b_value_passes := F_value_passes.binds (ps := p_value_passes) fun _ _ _ _ _ _ us hl => match us, hl with | [_, _], _ => rfl
  have F_pair_passes := fun_mk (st := s_pair_passes) l_pair_passes c_pair_passes k_pair_passes
  have m_pair_passes := PySem.W.mg_of X G a_pair_passes
  have b_pair_passes := F_pair_passes.binds (ps := p_pair_passes) fun _ _ _ _ _ _ us hl => match us, hl with | [_, _, _], _ => rfl
  have F__law_open := fun_mk (st := s__law_open) l__law_open c__law_open k__law_open
  have m__law_open := PySem.W.mg_of X G a__law_open
  have b__law_open := F__law_open.binds (ps := p__law_open) fun _ _ _ _ _ _ us hl => match us, hl with | [_], _ => rfl
  have F__law_spread := fun_mk (st := s__law_spread) l__law_spread c__law_spread k__law_spread
  have m__law_spread := PySem.W.mg_of X G a__law_spread
  have b__law_spread := F__law_spread.binds (ps := p__law_spread) fun _ _ _ _ _ _ us hl => match us, hl with | [_, _], _ => rfl
  have F__law_take := fun_mk (st := s__law_take) l__law_take c__law_take k__law_take
  have m__law_take := PySem.W.mg_of X G a__law_take
  have b__law_take := F__law_take.binds (ps := p__law_take) fun _ _ _ _ _ _ us hl => match us, hl with | [_, _], _ => rfl
  have F__law_same := fun_mk (st := s__law_same) l__law_same c__law_same k__law_same
  have m__law_same := PySem.W.mg_of X G a__law_same
  have b__law_same := F__law_same.binds (ps := p__law_same) fun _ _ _ _ _ _ us hl => match us, hl with | [_, _], _ => rfl
  have F__law_one_of := fun_mk (st := s__law_one_of) l__law_one_of c__law_one_of k__law_one_of
  have m__law_one_of := PySem.W.mg_of X G a__law_one_of
  have b__law_one_of := F__law_one_of.binds (ps := p__law_one_of) fun _ _ _ _ _ _ us hl => match us, hl with | [_, _], _ => rfl
  have F__law_is_integer := fun_mk (st := s__law_is_integer) l__law_is_integer c__law_is_integer k__law_is_integer
  have m__law_is_integer := PySem.W.mg_of X G a__law_is_integer
  have b__law_is_integer := F__law_is_integer.binds (ps := p__law_is_integer) fun _ _ _ _ _ _ us hl => match us, hl with | [_, _, _], _ => rfl
  have F__law_odd := fun_mk (st := s__law_odd) l__law_odd c__law_odd k__law_odd
  have m__law_odd := PySem.W.mg_of X G a__law_odd
  have b__law_odd := F__law_odd.binds (ps := p__law_odd) fun _ _ _ _ _ _ us hl => match us, hl with | [_], _ => rfl
  have F__law_bent := fun_mk (st := s__law_bent) l__law_bent c__law_bent k__law_bent
  have m__law_bent := PySem.W.mg_of X G a__law_bent
  have b__law_bent := F__law_bent.binds (ps := p__law_bent) fun _ _ _ _ _ _ us hl => match us, hl with | [_, _], _ => rfl
  have F__law_draw_test := fun_mk (st := s__law_draw_test) l__law_draw_test c__law_draw_test k__law_draw_test
  have m__law_draw_test := PySem.W.mg_of X G a__law_draw_test
  have b__law_draw_test := F__law_draw_test.binds (ps := p__law_draw_test) fun _ _ _ _ _ _ us hl => match us, hl with | [_, _, _], _ => rfl
  have F__law_draw_case := fun_mk (st := s__law_draw_case) l__law_draw_case c__law_draw_case k__law_draw_case
  have m__law_draw_case := PySem.W.mg_of X G a__law_draw_case
  have b__law_draw_case := F__law_draw_case.binds (ps := p__law_draw_case) fun _ _ _ _ _ _ us hl => match us, hl with | [_, _], _ => rfl
  have F__law_value_ok := fun_mk (st := s__law_value_ok) l__law_value_ok c__law_value_ok k__law_value_ok
  have m__law_value_ok := PySem.W.mg_of X G a__law_value_ok
  have b__law_value_ok := F__law_value_ok.binds (ps := p__law_value_ok) fun _ _ _ _ _ _ us hl => match us, hl with | [_, _], _ => rfl
  have F__law_is_case := fun_mk (st := s__law_is_case) l__law_is_case c__law_is_case k__law_is_case
  have m__law_is_case := PySem.W.mg_of X G a__law_is_case
  have b__law_is_case := F__law_is_case.binds (ps := p__law_is_case) fun _ _ _ _ _ _ us hl => match us, hl with | [_], _ => rfl
  have F__law_near := fun_mk (st := s__law_near) l__law_near c__law_near k__law_near
  have m__law_near := PySem.W.mg_of X G a__law_near
  have b__law_near := F__law_near.binds (ps := p__law_near) fun _ _ _ _ _ _ us hl => match us, hl with | [_, _], _ => rfl
  have F_law := fun_mk (st := s_law) l_law c_law k_law
  have m_law := PySem.W.mg_of X G a_law
  have b_law := F_law.binds (ps := p_law) fun _ _ _ _ _ _ us hl => match us, hl with | [_], _ => rfl
  refine ⟨PySem.W.fnOf "law" "law" (defArgs s_law) (defBody s_law) (defScope s_law) .none kV_law dc_law pm_law an_law cd_law ct_law, fun s v => .of_eq rfl, fun base _ _ => ?_⟩
  have C_is_integer : Callee l.prog w K mg base "is_integer" 1 p_is_integer sp_is_integer := callee_mk F_is_integer m_is_integer b_is_integer (ok_is_integer F_is_integer T)
  have C_is_within : Callee l.prog w K mg base "is_within" 2 p_is_within sp_is_within := callee_mk F_is_within m_is_within b_is_within (ok_is_within F_is_within T C_is_integer)
  have C_is_pair : Callee l.prog w K mg base "is_pair" 3 p_is_pair sp_is_pair := callee_mk F_is_pair m_is_pair b_is_pair (ok_is_pair F_is_pair T C_is_within)
  have C_is_rising : Callee l.prog w K mg base "is_rising" 1 p_is_rising sp_is_rising := callee_mk F_is_rising m_is_rising b_is_rising (ok_is_rising F_is_rising T)
  have C_is_case : Callee l.prog w K mg base "is_case" 4 p_is_case sp_is_case := callee_mk F_is_case m_is_case b_is_case (ok_is_case F_is_case T C_is_pair C_is_rising C_is_within)
  have C_value_passes : Callee l.prog w K mg base "value_passes" 1 p_value_passes sp_value_passes := callee_mk F_value_passes m_value_passes b_value_passes (ok_value_passes F_value_passes T)
  have C_pair_passes : Callee l.prog w K mg base "pair_passes" 1 p_pair_passes sp_pair_passes := callee_mk F_pair_passes m_pair_passes b_pair_passes (ok_pair_passes F_pair_passes T)
  have C__law_open : Callee l.prog w K mg base "_law_open" 1 p__law_open sp__law_open := callee_mk F__law_open m__law_open b__law_open (ok__law_open' (ok__law_open F__law_open T))
  have C__law_spread : Callee l.prog w K mg base "_law_spread" 1 p__law_spread sp__law_spread := callee_mk F__law_spread m__law_spread b__law_spread (ok__law_spread F__law_spread T)
  have C__law_take : Callee l.prog w K mg base "_law_take" 2 p__law_take sp__law_take := callee_mk F__law_take m__law_take b__law_take (ok__law_take F__law_take T C__law_spread)
  have C__law_same : Callee l.prog w K mg base "_law_same" 21 p__law_same sp__law_same := callee_mk F__law_same m__law_same b__law_same (ok__law_same F__law_same T m__law_same b__law_same)
  have C__law_one_of : Callee l.prog w K mg base "_law_one_of" 3 p__law_one_of sp__law_one_of := callee_mk F__law_one_of m__law_one_of b__law_one_of (ok__law_one_of F__law_one_of T C__law_take)
  have C__law_is_integer : Callee l.prog w K mg base "_law_is_integer" 1 p__law_is_integer sp__law_is_integer := callee_mk F__law_is_integer m__law_is_integer b__law_is_integer (ok__law_is_integer F__law_is_integer T)
  have C__law_odd : Callee l.prog w K mg base "_law_odd" 4 p__law_odd sp__law_odd := callee_mk F__law_odd m__law_odd b__law_odd (ok__law_odd F__law_odd T C__law_one_of)
  have C__law_bent : Callee l.prog w K mg base "_law_bent" 25 p__law_bent sp__law_bent := callee_mk F__law_bent m__law_bent b__law_bent (ok__law_bent F__law_bent T m__law_bent b__law_bent C__law_odd C__law_one_of C__law_take)
  have C__law_draw_test : Callee l.prog w K mg base "_law_draw_test" 3 p__law_draw_test sp__law_draw_test := callee_mk F__law_draw_test m__law_draw_test b__law_draw_test (ok__law_draw_test F__law_draw_test T C__law_take)
  have C__law_draw_case : Callee l.prog w K mg base "_law_draw_case" 4 p__law_draw_case sp__law_draw_case := callee_mk F__law_draw_case m__law_draw_case b__law_draw_case (ok__law_draw_case F__law_draw_case T C__law_draw_test C__law_one_of C__law_take)
  have C__law_value_ok : Callee l.prog w K mg base "_law_value_ok" 1 p__law_value_ok sp__law_value_ok := callee_mk F__law_value_ok m__law_value_ok b__law_value_ok (ok__law_value_ok F__law_value_ok T)
  have C__law_is_case : Callee l.prog w K mg base "_law_is_case" 2 p__law_is_case sp__law_is_case := callee_mk F__law_is_case m__law_is_case b__law_is_case (ok__law_is_case F__law_is_case T C__law_is_integer)
  have C__law_near : Callee l.prog w K mg base "_law_near" 26 p__law_near sp__law_near := callee_mk F__law_near m__law_near b__law_near (ok__law_near F__law_near T C__law_bent C__law_one_of C__law_take)
  exact (ok_law F_law T C__law_draw_case C__law_is_case C__law_near C__law_open C__law_same C__law_value_ok C_is_case C_pair_passes C_value_passes)
end Law
open PySem PySem.W PyProof.Rows
set_option maxRecDepth 100000 in
set_option maxHeartbeats 0 in
theorem PySem.Challenge.cw_somerows_k01_cases_recognized_holds : PySem.Challenge.rw_somerows_k01_cases_recognized.Holds := by
  w_on; o_law; k_head; (case hw => w_witness2)
  k_fill
  refine DL.walk_ofD (l := PySem.Challenge.rw_somerows_k01_cases_recognized) (k := 27) (x := "script") rfl rfl ⟨rfl, by decide, by decide⟩ (fun w h Y => PySem.W.kIn_of Y) ?F
  case F =>
    intro w mg fa h KX G hmg
    refine' Law.all_mk KX G hmg ?a_is_integer ?l_is_integer ?c_is_integer ?k_is_integer ?a_is_within ?l_is_within ?c_is_within ?k_is_within ?a_is_pair ?l_is_pair ?c_is_pair ?k_is_pair ?a_is_rising ?l_is_rising ?c_is_rising ?k_is_rising ?a_is_case ?l_is_case ?c_is_case ?k_is_case ?a_value_passes ?l_value_passes ?c_value_passes ?k_value_passes ?a_pair_passes ?l_pair_passes ?c_pair_passes ?k_pair_passes ?a__law_open ?l__law_open ?c__law_open ?k__law_open ?a__law_spread ?l__law_spread ?c__law_spread ?k__law_spread ?a__law_take ?l__law_take ?c__law_take ?k__law_take ?a__law_same ?l__law_same ?c__law_same ?k__law_same ?a__law_one_of ?l__law_one_of ?c__law_one_of ?k__law_one_of ?a__law_is_integer ?l__law_is_integer ?c__law_is_integer ?k__law_is_integer ?a__law_odd ?l__law_odd ?c__law_odd ?k__law_odd ?a__law_bent ?l__law_bent ?c__law_bent ?k__law_bent ?a__law_draw_test ?l__law_draw_test ?c__law_draw_test ?k__law_draw_test ?a__law_draw_case ?l__law_draw_case ?c__law_draw_case ?k__law_draw_case ?a__law_value_ok ?l__law_value_ok ?c__law_value_ok ?k__law_value_ok ?a__law_is_case ?l__law_is_case ?c__law_is_case ?k__law_is_case ?a__law_near ?l__law_near ?c__law_near ?k__law_near ?a_law ?l_law ?c_law ?k_law ?z_all ?z_any ?z_bool ?z_enumerate ?z_int ?z_isinstance ?z_len ?z_list ?z_range ?z_repr ?z_set ?z_sorted ?z_str ?z_tuple ?z_zip ?g_MOST_KINDS ?g_MOST_PARENTS ?g_MOST_VALUES
    (case a_is_integer => k_is)
    (case l_is_integer => k_is)
    (case c_is_integer => k_is)
    (case k_is_integer => k_is)
    (case a_is_within => k_is)
    (case l_is_within => k_is)
    (case c_is_within => k_is)
    (case k_is_within => k_is)
    (case a_is_pair => k_is)
    (case l_is_pair => k_is)
    (case c_is_pair => k_is)
    (case k_is_pair => k_is)
    (case a_is_rising => k_is)
    (case l_is_rising => k_is)
    (case c_is_rising => k_is)
    (case k_is_rising => k_is)
    (case a_is_case => k_is)
    (case l_is_case => k_is)
    (case c_is_case => k_is)
    (case k_is_case => k_is)
    (case a_value_passes => k_is)
    (case l_value_passes => k_is)
    (case c_value_passes => k_is)
    (case k_value_passes => k_is)
    (case a_pair_passes => k_is)
    (case l_pair_passes => k_is)
    (case c_pair_passes => k_is)
    (case k_pair_passes => k_is)
    (case a__law_open => k_is)
    (case l__law_open => k_is)
    (case c__law_open => k_is)
    (case k__law_open => k_is)
    (case a__law_spread => k_is)
    (case l__law_spread => k_is)
    (case c__law_spread => k_is)
    (case k__law_spread => k_is)
    (case a__law_take => k_is)
    (case l__law_take => k_is)
    (case c__law_take => k_is)
    (case k__law_take => k_is)
    (case a__law_same => k_is)
    (case l__law_same => k_is)
    (case c__law_same => k_is)
    (case k__law_same => k_is)
    (case a__law_one_of => k_is)
    (case l__law_one_of => k_is)
    (case c__law_one_of => k_is)
    (case k__law_one_of => k_is)
    (case a__law_is_integer => k_is)
    (case l__law_is_integer => k_is)
    (case c__law_is_integer => k_is)
    (case k__law_is_integer => k_is)
    (case a__law_odd => k_is)
    (case l__law_odd => k_is)
    (case c__law_odd => k_is)
    (case k__law_odd => k_is)
    (case a__law_bent => k_is)
    (case l__law_bent => k_is)
    (case c__law_bent => k_is)
    (case k__law_bent => k_is)
    (case a__law_draw_test => k_is)
    (case l__law_draw_test => k_is)
    (case c__law_draw_test => k_is)
    (case k__law_draw_test => k_is)
    (case a__law_draw_case => k_is)
    (case l__law_draw_case => k_is)
    (case c__law_draw_case => k_is)
    (case k__law_draw_case => k_is)
    (case a__law_value_ok => k_is)
    (case l__law_value_ok => k_is)
    (case c__law_value_ok => k_is)
    (case k__law_value_ok => k_is)
    (case a__law_is_case => k_is)
    (case l__law_is_case => k_is)
    (case c__law_is_case => k_is)
    (case k__law_is_case => k_is)
    (case a__law_near => k_is)
    (case l__law_near => k_is)
    (case c__law_near => k_is)
    (case k__law_near => k_is)
    (case a_law => k_is)
    (case l_law => k_is)
    (case c_law => k_is)
    (case k_law => k_is)
    (case z_all => k_is)
    (case z_any => k_is)
    (case z_bool => k_is)
    (case z_enumerate => k_is)
    (case z_int => k_is)
    (case z_isinstance => k_is)
    (case z_len => k_is)
    (case z_list => k_is)
    (case z_range => k_is)
    (case z_repr => k_is)
    (case z_set => k_is)
    (case z_sorted => k_is)
    (case z_str => k_is)
    (case z_tuple => k_is)
    (case z_zip => k_is)
    (case g_MOST_KINDS => k_is)
    (case g_MOST_PARENTS => k_is)
    (case g_MOST_VALUES => k_is)
