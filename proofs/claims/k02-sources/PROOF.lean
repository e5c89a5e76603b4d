import PyProof.Rows.All
import Wide.All
import OpenK.AllK
import Wide.FinOn
import PyProof.EqAt
import PyProof.EqKinds
import PyProof.TupleCall
import HandS.ForMost
import HandS.TupAny
import HandS.TupMul
import HandS.IsInst
import HandS.Flow
import HandS.Zip
import HandS.SortOrd
import HandS.TupLe
import KE.SortKeyed
import KE.DataCmp
import HandS.Style
import KE.GoesEnumKw
import HandS.TupSets
import PyProof.WalksMore
import KE.GoesMore
import PyProof.EnumIter
import PySem.Challenge.RW_somerows_k02_sources_recognized
set_option Elab.async false
set_option linter.all false
set_option maxRecDepth 100000
set_option maxHeartbeats 4000000
namespace DL
open PySem PySem.Spec L2
open PyProof.Rows hiding St

inductive DV where
  | d (x : PyData)
  | r (a : Addr)
  | s (ns : List Int)
inductive MO where
  | lst (xs : List DV)
  | tup (xs : List DV)
abbrev Mem := Addr → Option MO
abbrev SD := List (Option DV)
abbrev DQ := DV → Mem → Prop
abbrev WE := SD → Mem → DQ → Prop
abbrev WT := SD → Mem → (Bool → Mem → Prop) → Prop
abbrev WA := SD → Mem → (List DV → Mem → Prop) → Prop
structure DEnds where
  nx : SD → Mem → Prop
  rt : DQ
  bk : SD → Mem → Prop := fun _ _ => False
  ct : SD → Mem → Prop := fun _ _ => False
abbrev WS := DEnds → SD → Mem → Prop
def mupd (M : Mem) (a : Addr) (o : MO) : Mem := fun b => if b = a then some o else M b
theorem mupd_same {M : Mem} {a : Addr} {o : MO} : mupd M a o a = some o := by unfold mupd; rw [if_pos rfl]
theorem mupd_ne {M : Mem} {a b : Addr} {o : MO} (h : b ≠ a) : mupd M a o b = M b := by unfold mupd; rw [if_neg h]
theorem mupd_mupd {M : Mem} {a : Addr} {o u : MO} : mupd (mupd M a o) a u = mupd M a u := by
  funext b; unfold mupd; split <;> rfl
theorem mupd_self {M : Mem} {a : Addr} {o : MO} (h : M a = some o) : mupd M a o = M := by
  funext b; unfold mupd; split
  · subst_vars; exact h.symm
  · rfl

def KTup (K : PySem.W.Frag) (a : Addr) (xs : List V) : Prop :=
  ∃ (o : Obj) (its : Array Value) (n : Nat), K.lookup a = some o ∧ o.cls = .type "tuple" ∧ o.data = .seq its n ∧ its.size ≤ sizeLine ∧ Vals xs its.toList
def KLst (K : PySem.W.Frag) (a : Addr) (xs : List V) : Prop :=
  ∃ (o : Obj) (its : Array Value) (n : Nat), K.lookup a = some o ∧ o.cls = .type "list" ∧ o.dict = none ∧ o.data = .seq its n ∧ its.size ≤ sizeLine ∧ Vals xs its.toList
mutual
inductive RepP (K : PySem.W.Frag) (H : Hp) (M : Mem) : V → PyData → Prop
  | non : RepP K H M .non .none
  | bl (b : Bool) : RepP K H M (.bl b) (.bool b)
  | int (i : Int) : RepP K H M (.int i) (.int i)
  | str (x : Str) : RepP K H M (.str x) (.str x)
  | lst {a : Addr} {xs : List V} {ds : List PyData} : H a = some (.lst xs) → M a = none → RepA K H M xs ds → RepP K H M (.ref a) (.list ds)
  | tup {a : Addr} {xs : List V} {ds : List PyData} : H a = some (.tup xs) → M a = none → RepA K H M xs ds → RepP K H M (.ref a) (.tuple ds)
  | ktp {a : Addr} {xs : List V} {ds : List PyData} : KTup K a xs → RepA K H M xs ds → RepP K H M (.ref a) (.tuple ds)
  | dct0 {a : Addr} : H a = some (.dK []) → M a = none → RepP K H M (.ref a) (.dict [])
inductive RepA (K : PySem.W.Frag) (H : Hp) (M : Mem) : List V → List PyData → Prop
  | nil : RepA K H M [] []
  | cons {v : V} {vs : List V} {d : PyData} {ds : List PyData} : RepP K H M v d → RepA K H M vs ds → RepA K H M (v :: vs) (d :: ds)
end
def Rep (K : PySem.W.Frag) (H : Hp) (M : Mem) (v : V) : DV → Prop
  | .d x => RepP K H M v x
  | .r a => v = .ref a
  | .s ns => ∃ a, v = .ref a ∧ ((Rd H a (.lst (ns.map V.int)) ∧ M a = none) ∨ KLst K a (ns.map V.int))
abbrev RepL (K : PySem.W.Frag) (H : Hp) (M : Mem) : List V → List DV → Prop := Paired (Rep K H M)
def MOk (K : PySem.W.Frag) (H : Hp) (M : Mem) (a : Addr) : MO → Prop
  | .lst xs => ∃ vs, H a = some (.lst vs) ∧ RepL K H M vs xs
  | .tup xs => ∃ vs, H a = some (.tup vs) ∧ RepL K H M vs xs
def RelM (K : PySem.W.Frag) (H : Hp) (M : Mem) : Prop := ∀ a m, M a = some m → MOk K H M a m
def Keep (H : Hp) (M : Mem) (H' : Hp) (M' : Mem) : Prop := ∀ a, M a = none → (∀ o, H a = some o → H' a = some o ∧ M' a = none)

theorem Keep.refl (H : Hp) (M : Mem) : Keep H M H M := fun _ n _ e => ⟨e, n⟩
theorem Keep.trans {H H1 H2 : Hp} {M M1 M2 : Mem} (a : Keep H M H1 M1) (b : Keep H1 M1 H2 M2) : Keep H M H2 M2 := fun c n o e =>
  let ⟨e1, n1⟩ := a c n o e
  b c n1 o e1
mutual
theorem RepP.keep {K : PySem.W.Frag} {H H' : Hp} {M M' : Mem} (k : Keep H M H' M') : ∀ (d : PyData) (v : V), RepP K H M v d → RepP K H' M' v d
  | .none, _, h => by cases h; exact .non
  | .bool _, _, h => by cases h; exact .bl _
  | .int _, _, h => by cases h; exact .int _
  | .str _, _, h => by cases h; exact .str _
  | .list ds, _, h => by
    cases h with
    | lst e n r =>
      obtain ⟨e', n'⟩ := k _ n _ e
      exact .lst e' n' (RepA.keep k ds _ r)
  | .tuple ds, _, h => by
    cases h with
    | tup e n r =>
      obtain ⟨e', n'⟩ := k _ n _ e
      exact .tup e' n' (RepA.keep k ds _ r)
    | ktp e r => exact .ktp e (RepA.keep k ds _ r)
  | .dict _, _, h => by
    cases h with
    | dct0 e n =>
      obtain ⟨e', n'⟩ := k _ n _ e
      exact .dct0 e' n'
theorem RepA.keep {K : PySem.W.Frag} {H H' : Hp} {M M' : Mem} (k : Keep H M H' M') : ∀ (ds : List PyData) (vs : List V), RepA K H M vs ds → RepA K H' M' vs ds
  | [], _, h => by cases h; exact .nil
  | d :: ds, _, h => by
    cases h with
    | cons h1 h2 => exact .cons (RepP.keep k d _ h1) (RepA.keep k ds _ h2)
end
section
variable {K : PySem.W.Frag} {H H' : Hp} {M M' : Mem}
theorem Rep.keep (k : Keep H M H' M') : ∀ {v : V} {d : DV}, Rep K H M v d → Rep K H' M' v d
  | _, .d x, h => RepP.keep k x _ h
  | _, .r _, h => h
  | _, .s ns, h => by
    obtain ⟨a, e, h⟩ := h
    refine ⟨a, e, ?_⟩
    rcases h with ⟨h | ⟨o, h⟩, n⟩ | h
    · exact .inl ⟨.inl (k a n _ h).1, (k a n _ h).2⟩
    · exact .inl ⟨.inr ⟨o, (k a n _ h).1⟩, (k a n _ h).2⟩
    · exact .inr h
theorem RepL.keep (k : Keep H M H' M') {vs : List V} {ds : List DV} (h : RepL K H M vs ds) : RepL K H' M' vs ds := Paired.mapP h fun _ _ r => r.keep k
theorem RepA.toL : ∀ {vs : List V} {ds : List PyData}, RepA K H M vs ds → RepL K H M vs (ds.map DV.d)
  | _, [], h => by cases h; exact .nil
  | _, d :: ds, h => by
    cases h with
    | cons h1 h2 => exact .cons h1 h2.toL
theorem RepL.toA : ∀ {vs : List V} {ds : List PyData}, RepL K H M vs (ds.map DV.d) → RepA K H M vs ds
  | _, [], h => by cases h; exact .nil
  | _, d :: ds, h => by
    cases h with
    | cons h1 h2 => exact .cons h1 (RepL.toA h2)
theorem RepA.length : ∀ {vs : List V} {ds : List PyData}, RepA K H M vs ds → vs.length = ds.length
  | _, [], h => by cases h; rfl
  | _, d :: ds, h => by
    cases h with
    | cons h1 h2 => simp [h2.length]
theorem RepA.append : ∀ {vs ws : List V} {ds es : List PyData}, RepA K H M vs ds → RepA K H M ws es → RepA K H M (vs ++ ws) (ds ++ es)
  | _, _, [], _, h, h' => by cases h; exact h'
  | _, _, d :: ds, _, h, h' => by
    cases h with
    | cons h1 h2 => exact .cons h1 (h2.append h')
theorem RepA.drop : ∀ {vs : List V} {ds : List PyData} (n : Nat), RepA K H M vs ds → RepA K H M (vs.drop n) (ds.drop n)
  | _, _, 0, h => h
  | _, [], _ + 1, h => by cases h; exact .nil
  | _, d :: ds, n + 1, h => by
    cases h with
    | cons h1 h2 => exact h2.drop n
theorem RepA.take : ∀ {vs : List V} {ds : List PyData} (n : Nat), RepA K H M vs ds → RepA K H M (vs.take n) (ds.take n)
  | _, _, 0, _ => .nil
  | _, [], _ + 1, h => by cases h; exact .nil
  | _, d :: ds, n + 1, h => by
    cases h with
    | cons h1 h2 => exact .cons h1 (h2.take n)
theorem RepA.get : ∀ {vs : List V} {ds : List PyData} {i : Nat} {d : PyData}, RepA K H M vs ds → ds[i]? = some d → ∃ v, vs[i]? = some v ∧ RepP K H M v d
  | _, [], _, _, _, e => by simp at e
  | _, d :: ds, 0, _, h, e => by
    cases h with
    | cons h1 h2 =>
      simp at e
      subst e
      exact ⟨_, rfl, h1⟩
  | _, d :: ds, i + 1, _, h, e => by
    cases h with
    | cons h1 h2 =>
      obtain ⟨v, a, b⟩ := h2.get (i := i) (by simpa using e)
      exact ⟨v, by simpa using a, b⟩
theorem RepA.atI {vs : List V} {ds : List PyData} {i : Int} {d : PyData} (h : RepA K H M vs ds) (e : L2.atI ds i = some d) : ∃ v, L2.atI vs i = some v ∧ RepP K H M v d := by
  unfold L2.atI at e ⊢
  rw [h.length]
  cases q : ixN ds.length i with
  | none => rw [q] at e; cases e
  | some j =>
    rw [q] at e
    exact h.get e
theorem RelM.no (R : RelM K H M) {p : Addr} (h : H p = none) : M p = none := by
  cases q : M p with
  | none => rfl
  | some m =>
    have z := R p m q
    cases m with
    | lst xs => obtain ⟨vs, e, _⟩ := z; rw [h] at e; cases e
    | tup xs => obtain ⟨vs, e, _⟩ := z; rw [h] at e; cases e
theorem MOk.keep (k : Keep H M H' M') {a : Addr} {m : MO} (h : MOk K H M a m) (e : H' a = H a) : MOk K H' M' a m := by
  cases m with
  | lst xs => obtain ⟨vs, q, r⟩ := h; exact ⟨vs, by rw [e]; exact q, r.keep k⟩
  | tup xs => obtain ⟨vs, q, r⟩ := h; exact ⟨vs, by rw [e]; exact q, r.keep k⟩
theorem Keep.new (R : RelM K H M) {p : Addr} {o : HO} (h : H p = none) : Keep H M (upd H p o) M := fun a n u e => ⟨by rw [upd_ne (ne_of_none e h)]; exact e, n⟩
theorem RelM.new (R : RelM K H M) {p : Addr} {o : HO} (h : H p = none) : RelM K (upd H p o) M := fun a m e => by
  refine (R a m e).keep (Keep.new R h) ?_
  refine upd_ne ?_
  rintro rfl
  rw [R.no h] at e
  cases e
theorem Keep.newM (R : RelM K H M) {p : Addr} {o : HO} {m : MO} (h : H p = none) : Keep H M (upd H p o) (mupd M p m) := fun a n u e => by
  have z := ne_of_none e h
  exact ⟨by rw [upd_ne z]; exact e, by rw [mupd_ne z]; exact n⟩
theorem RelM.newM (R : RelM K H M) {p : Addr} {o : HO} {m : MO} (h : H p = none) (g : MOk K (upd H p o) (mupd M p m) p m) : RelM K (upd H p o) (mupd M p m) := fun a q e => by
  by_cases z : a = p
  · subst z
    rw [mupd_same] at e
    cases e
    exact g
  · rw [mupd_ne z] at e
    exact (R a q e).keep (Keep.newM R h) (upd_ne z)
theorem Keep.put {a : Addr} {o : HO} {m m' : MO} (h : M a = some m) : Keep H M (upd H a o) (mupd M a m') := fun b n u e => by
  have z : b ≠ a := by
    rintro rfl
    rw [h] at n
    cases n
  exact ⟨by rw [upd_ne z]; exact e, by rw [mupd_ne z]; exact n⟩
theorem RelM.put (R : RelM K H M) {a : Addr} {o : HO} {m m' : MO} (h : M a = some m) (g : MOk K (upd H a o) (mupd M a m') a m') : RelM K (upd H a o) (mupd M a m') := fun b q e => by
  by_cases z : b = a
  · subst z
    rw [mupd_same] at e
    cases e
    exact g
  · rw [mupd_ne z] at e
    exact (R b q e).keep (Keep.put h) (upd_ne z)
end
structure RepS (K : PySem.W.Frag) (H : Hp) (M : Mem) (σ : St) (δ : SD) : Prop where
  len : σ.length = δ.length
  at_ : ∀ (i : Nat) (d : DV), δ[i]? = some (some d) → ∃ v, σ[i]? = some (some v) ∧ Rep K H M v d
theorem RepS.keep {K : PySem.W.Frag} {H H' : Hp} {M M' : Mem} {σ : St} {δ : SD} (S : RepS K H M σ δ) (k : Keep H M H' M') : RepS K H' M' σ δ :=
  ⟨S.len, fun i d e => let ⟨v, a, b⟩ := S.at_ i d e; ⟨v, a, b.keep k⟩⟩
theorem RepS.set {K : PySem.W.Frag} {H : Hp} {M : Mem} {σ : St} {δ : SD} (S : RepS K H M σ δ) {v : V} {d : DV} (r : Rep K H M v d) (i : Nat) : RepS K H M (σ.set i (some v)) (δ.set i (some d)) := by
  refine ⟨by simp [S.len], fun j e q => ?_⟩
  by_cases z : i = j
  · subst z
    by_cases l : i < δ.length
    · rw [List.getElem?_set_self l] at q
      cases q
      exact ⟨v, List.getElem?_set_self (by rw [S.len]; exact l), r⟩
    · rw [List.getElem?_eq_none (by simp; omega)] at q
      cases q
  · rw [List.getElem?_set_ne z] at q ⊢
    exact S.at_ j e q

def EndD (K : PySem.W.Frag) (H : Hp) (M : Mem) (Qd : DQ) (Q : VK) : Prop := ∀ d M' v H', Keep H M H' M' → RelM K H' M' → Rep K H' M' v d → Qd d M' → Q v H'
def lift (K : PySem.W.Frag) (w : WE) : TE := fun σ H Q => ∃ δ M Qd, RepS K H M σ δ ∧ RelM K H M ∧ w δ M Qd ∧ EndD K H M Qd Q
def liftT (K : PySem.W.Frag) (w : WT) : TT := fun σ H Q => ∃ δ M Qd, RepS K H M σ δ ∧ RelM K H M ∧ w δ M Qd ∧ ∀ b M' H', Keep H M H' M' → RelM K H' M' → Qd b M' → Q b H'
def liftA (K : PySem.W.Frag) (w : WA) : TA := fun σ H Q => ∃ δ M Qd, RepS K H M σ δ ∧ RelM K H M ∧ w δ M Qd ∧ ∀ ds M' vs H', Keep H M H' M' → RelM K H' M' → RepL K H' M' vs ds → Qd ds M' → Q vs H'
def liftS (K : PySem.W.Frag) (w : WS) : TS := fun D σ H => ∃ δ M E, RepS K H M σ δ ∧ RelM K H M ∧ w E δ M ∧
  (∀ δ' M' σ' H', Keep H M H' M' → RelM K H' M' → RepS K H' M' σ' δ' → E.nx δ' M' → D.nx σ' H') ∧
  (∀ d M' v H', Keep H M H' M' → RelM K H' M' → Rep K H' M' v d → E.rt d M' → D.rt v H') ∧
  (∀ δ' M' σ' H', Keep H M H' M' → RelM K H' M' → RepS K H' M' σ' δ' → E.bk δ' M' → D.bk σ' H') ∧
  (∀ δ' M' σ' H', Keep H M H' M' → RelM K H' M' → RepS K H' M' σ' δ' → E.ct δ' M' → D.ct σ' H')
theorem EndD.step {K : PySem.W.Frag} {H H1 : Hp} {M M1 : Mem} {Qd : DQ} {Q : VK} (E : EndD K H M Qd Q) (k : Keep H M H1 M1) : EndD K H1 M1 Qd Q := fun d M' v H' k' R r q => E d M' v H' (k.trans k') R r q
theorem pe_imp {X : Cx} {e : Expr} {t t' : TE} (h : PE X e t) (i : ∀ σ H Q, t' σ H Q → t σ H Q) : PE X e t' := ⟨fun pins s σ H Q I q => h.run pins s σ H Q I (i σ H Q q)⟩
theorem pt_imp {X : Cx} {e : Expr} {t t' : TT} (h : PT X e t) (i : ∀ σ H Q, t' σ H Q → t σ H Q) : PT X e t' := ⟨fun pins s σ H Q I q => h.run pins s σ H Q I (i σ H Q q)⟩
theorem pw_imp {X : Cx} {e : Expr} {t t' : TT} (h : PW X e t) (i : ∀ σ H Q, t' σ H Q → t σ H Q) : PW X e t' := ⟨fun wh pins s σ H Q I q => h.run wh pins s σ H Q I (i σ H Q q)⟩
theorem pa_imp {X : Cx} {e : List Expr} {t t' : TA} (h : PA X e t) (i : ∀ σ H Q, t' σ H Q → t σ H Q) : PA X e t' := ⟨fun pos pins s σ H Q I q => h.run pos pins s σ H Q I (i σ H Q q)⟩
theorem ps_imp {X : Cx} {e : Stmt} {t t' : TS} (h : PS X e t) (i : ∀ D σ H, t' D σ H → t D σ H) : PS X e t' := ⟨fun pins s σ H D I q => h.run pins s σ H D I (i D σ H q)⟩
theorem pss_imp {X : Cx} {e : List Stmt} {t t' : TS} (h : PSs X e t) (i : ∀ D σ H, t' D σ H → t D σ H) : PSs X e t' := ⟨fun pins s σ H D I q => h.run pins s σ H D I (i D σ H q)⟩

abbrev DE (X : Cx) (e : Expr) (w : WE) : Prop := PE X e (lift X.K w)
abbrev DT (X : Cx) (e : Expr) (w : WT) : Prop := PT X e (liftT X.K w)
abbrev DWh (X : Cx) (e : Expr) (w : WT) : Prop := PW X e (liftT X.K w)
abbrev DA (X : Cx) (e : List Expr) (w : WA) : Prop := PA X e (liftA X.K w)
abbrev DS (X : Cx) (e : Stmt) (w : WS) : Prop := PS X e (liftS X.K w)
abbrev DSs (X : Cx) (e : List Stmt) (w : WS) : Prop := PSs X e (liftS X.K w)
def wV (i : Nat) : WE := fun δ M Q => match δ[i]? with
  | some (some d) => Q d M
  | _ => False
def wC (d : DV) : WE := fun _ M Q => Q d M
section
variable {X : Cx} {pos : Pos}
theorem de_var {i : Nat} {x : Str} (hN : X.N[i]? = some x) (hv : Vis X.env.scope x) (hd : (x == ("__debug__" : Str)) = false := by decide) (hcd : (x == ("__classdict__" : Str)) = false := by decide) : DE X (.Name x pos) (wV i) :=
  pe_imp (pe_var hN hv hd hcd) fun σ H Q ⟨δ, M, Qd, S, R, h, E⟩ => by
    unfold wV at h
    split at h
    · rename_i d e
      obtain ⟨v, ev, r⟩ := S.at_ i d e
      exact ⟨v, ev, E _ _ _ _ (Keep.refl _ _) R r h⟩
    · exact h.elim
theorem dv (i : Nat) {x : Str} (hN : X.N[i]? = some x := by rfl) (hv : Vis X.env.scope x := by first | exact Or.inl rfl | exact Or.inr (Or.inl rfl) | exact Or.inr (Or.inr rfl)) (hd : (x == ("__debug__" : Str)) = false := by decide)
    (hcd : (x == ("__classdict__" : Str)) = false := by decide) : DE X (.Name x pos) (wV i) := de_var hN hv hd hcd
theorem de_const {e : Expr} {v : V} {x : PyData} (h : PE X e (tC v)) (r : ∀ H M, RepP X.K H M v x) : DE X e (wC (.d x)) :=
  pe_imp h fun σ H Q ⟨δ, M, Qd, S, R, q, E⟩ => E (.d x) _ _ _ (Keep.refl _ _) R (r H M) q
theorem de_int {i : Int} {j} : DE X (.Constant (.int i) j pos) (wC (.d (.int i))) := de_const pe_int fun _ _ => .int i
theorem de_bl {b : Bool} {j} : DE X (.Constant (.bool b) j pos) (wC (.d (.bool b))) := de_const pe_bl fun _ _ => .bl b
theorem de_non {j} : DE X (.Constant .none j pos) (wC (.d .none)) := de_const pe_non fun _ _ => .non
theorem de_str {x : Str} {j} : DE X (.Constant (.str x) j pos) (wC (.d (.str x))) := de_const pe_str fun _ _ => .str x
theorem de_globI {x : Str} {i : Int} {t : Tok} (hg : Gl X x) (hm : X.mg x = some (.int i t)) (hd : (x == ("__debug__" : Str)) = false := by decide) : DE X (.Name x pos) (wC (.d (.int i))) :=
  de_const (pe_glob hg hm (v := .int i) ⟨t, rfl⟩ hd) fun _ _ => .int i
inductive KRep (K : PySem.W.Frag) (v : V) (x : PyData) : Prop
  | mk (h : ∀ H M, RepP K H M v x)
theorem de_globK {x : Str} {v : V} {u : Value} {d : PyData} (hg : Gl X x) (hm : X.mg x = some u) (r : RelV v u) (k : KRep X.K v d) (hd : (x == ("__debug__" : Str)) = false := by decide) : DE X (.Name x pos) (wC (.d d)) :=
  de_const (pe_glob hg hm r hd) fun H M => let ⟨h⟩ := k; h H M
theorem de_globR {x : Str} {a : Addr} (hg : Gl X x) (hm : X.mg x = some (.ref a)) (hd : (x == ("__debug__" : Str)) = false := by decide) : DE X (.Name x pos) (wC (.r a)) :=
  pe_imp (pe_glob hg hm (v := .ref a) rfl hd) fun σ H Q ⟨δ, M, Qd, S, R, q, E⟩ => E (.r a) _ _ _ (Keep.refl _ _) R rfl q

abbrev R2D := DV → DV → Mem → DQ → Prop
def Sim2 (K : PySem.W.Frag) (r : R2) (rd : R2D) : Prop := ∀ H M x y dx dy Qd Q, RelM K H M → Rep K H M x dx → Rep K H M y dy → rd dx dy M Qd → EndD K H M Qd Q → r x y H Q
def wOp (rd : R2D) (wa wb : WE) : WE := fun δ M Q => wa δ M fun x M1 => wb δ M1 fun y M2 => rd x y M2 Q
variable {a b : Expr} {wa wb : WE}
theorem lift2 {K : PySem.W.Frag} {r : R2} {rd : R2D} (sim : Sim2 K r rd) {σ : St} {H : Hp} {Q : VK} (h : lift K (wOp rd wa wb) σ H Q) : tOp r (lift K wa) (lift K wb) σ H Q := by
  obtain ⟨δ, M, Qd, S, R, h, E⟩ := h
  refine ⟨δ, M, _, S, R, h, fun d M1 v H1 k1 R1 r1 h1 => ?_⟩
  exact ⟨δ, M1, _, S.keep k1, R1, h1, fun e M2 u H2 k2 R2 r2 h2 => sim H2 M2 v u d e Qd Q R2 (r1.keep k2) r2 h2 (E.step (k1.trans k2))⟩
theorem de_op {op : Operator} {r : R2} {rd : R2D} (ho : OpR X (binaryOp op) r) (sim : Sim2 X.K r rd) (ha : DE X a wa) (hb : DE X b wb) : DE X (.BinOp a op b pos) (wOp rd wa wb) :=
  pe_imp (pe_op ho ha hb) fun _ _ _ h => lift2 sim h
theorem de_cmp {op : CmpOp} {r : R2} {rd : R2D} (ho : OpR X (compareOp op) r) (sim : Sim2 X.K r rd) (ha : DE X a wa) (hb : DE X b wb) (hm : behindInMarks op b = false) : DE X (.Compare a [op] [b] pos) (wOp rd wa wb) :=
  pe_imp (pe_cmpR ho ha hb hm) fun _ _ _ h => lift2 sim h
def wB (w : WE) : WT := fun δ M Q => w δ M fun x M1 => match x with
  | .d (.bool k) => Q k M1
  | _ => False
theorem liftB {K : PySem.W.Frag} {w : WE} {σ : St} {H : Hp} {Q : Bool → Hp → Prop} (h : liftT K (wB w) σ H Q) : lift K w σ H fun x H' => ∃ k, x = .bl k ∧ Q k H' := by
  obtain ⟨δ, M, Qd, S, R, h, E⟩ := h
  refine ⟨δ, M, _, S, R, h, fun d M1 v H1 k1 R1 r1 h1 => ?_⟩
  split at h1
  · cases r1
    exact ⟨_, rfl, E _ _ _ k1 R1 h1⟩
  · exact h1.elim
theorem dt_val {e : Expr} {w : WE} (h : DE X e w) (he : ∀ whole, isTrue e X.env whole = (do let v ← whole; standAt e.pos; holding [v] (truthy v)) := by intro _; rfl) : DT X e (wB w) :=
  pt_imp (pt_val h he) fun _ _ _ q => liftB q
theorem dt_cmp {op : CmpOp} {r : R2} {rd : R2D} (ho : OpR X (compareOp op) r) (sim : Sim2 X.K r rd) (ha : DE X a wa) (hb : DE X b wb) (hm : behindInMarks op b = false) : DT X (.Compare a [op] [b] pos) (wB (wOp rd wa wb)) :=
  pt_imp (pt_cmpR ho ha hb hm) fun σ H Q q => by
    have q' := liftB q
    exact lift2 (Q := fun x H' => ∃ k, x = .bl k ∧ Q k H') sim q'
end
end DL
namespace DL
open PySem PySem.Spec L2
open PyProof.Rows hiding St

def rD (K : PySem.W.Frag) (rd : R2D) : R2 := fun x y H Q => ∃ dx dy M Qd, RelM K H M ∧ Rep K H M x dx ∧ Rep K H M y dy ∧ rd dx dy M Qd ∧ EndD K H M Qd Q
theorem simD {K : PySem.W.Frag} {rd : R2D} : Sim2 K (rD K rd) rd := fun H M x y dx dy Qd Q R rx ry h E => ⟨dx, dy, M, Qd, R, rx, ry, h, E⟩
theorem opR_imp {X : Cx} {f : Value → Value → Sem Value} {r r' : R2} (h : OpR X f r) (i : ∀ x y H Q, r' x y H Q → r x y H Q) : OpR X f r' := fun pins s σ H x y v u Q I rx ry q => h pins s σ H x y v u Q I rx ry (i _ _ _ _ q)
section
variable {X : Cx}
abbrev OpD (X : Cx) (f : Value → Value → Sem Value) (rd : R2D) : Prop := OpR X f (rD X.K rd)
def iOp (C : Int → Int → Prop) (g : Int → Int → PyData) : DV → DV → Mem → DQ → Prop
  | .d (.int i), .d (.int j), M, Q => C i j ∧ Q (.d (g i j)) M
  | _, _, M, Q => False
def iOp0 (g : Int → Int → PyData) : DV → DV → Mem → DQ → Prop
  | .d (.int i), .d (.int j), M, Q => Q (.d (g i j)) M
  | _, _, M, Q => False
theorem RepP.int_inv {K : PySem.W.Frag} {H : Hp} {M : Mem} {v : V} {i : Int} (h : RepP K H M v (.int i)) : v = .int i := by cases h; rfl
theorem RepP.bl_inv {K : PySem.W.Frag} {H : Hp} {M : Mem} {v : V} {i : Bool} (h : RepP K H M v (.bool i)) : v = .bl i := by cases h; rfl
theorem RepP.str_inv {K : PySem.W.Frag} {H : Hp} {M : Mem} {v : V} {i : Str} (h : RepP K H M v (.str i)) : v = .str i := by cases h; rfl
theorem od_int {f : Value → Value → Sem Value} {C : Int → Int → Prop} {g : Int → Int → V} {gd : Int → Int → PyData} (h : OpR X f (rI C g)) (hg : ∀ i j H M, RepP X.K H M (g i j) (gd i j)) : OpD X f (iOp C gd) :=
  opR_imp h fun x y H Q ⟨dx, dy, M, Qd, R, rx, ry, q, E⟩ => by
    unfold iOp at q
    split at q
    · exact ⟨_, _, RepP.int_inv rx, RepP.int_inv ry, q.1, E (.d _) _ _ _ (Keep.refl _ _) R (hg _ _ _ _) q.2⟩
    · exact q.elim
theorem od_int0 {f : Value → Value → Sem Value} {g : Int → Int → V} {gd : Int → Int → PyData} (h : OpR X f (rI0 g)) (hg : ∀ i j H M, RepP X.K H M (g i j) (gd i j)) : OpD X f (iOp0 gd) :=
  opR_imp h fun x y H Q ⟨dx, dy, M, Qd, R, rx, ry, q, E⟩ => by
    unfold iOp0 at q
    split at q
    · exact ⟨_, _, RepP.int_inv rx, RepP.int_inv ry, E (.d _) _ _ _ (Keep.refl _ _) R (hg _ _ _ _) q⟩
    · exact q.elim
theorem od_sub : OpD X (binaryOp .Sub) (iOp0 fun i j => .int (i - j)) := od_int0 op_sub fun _ _ _ _ => .int _
theorem od_mod : OpD X (binaryOp .Mod) (iOp (fun _ j => 0 < j) fun i j => .int (i % j)) := od_int op_mod fun _ _ _ _ => .int _
theorem od_fdiv : OpD X (binaryOp .FloorDiv) (iOp CDiv fun i j => .int (i / j)) := od_int op_fdiv fun _ _ _ _ => .int _
theorem od_pow : OpD X (binaryOp .Pow) (iOp CPow fun i j => .int (i ^ j.toNat)) := od_int op_pow fun _ _ _ _ => .int _
theorem od_lt : OpD X (compareOp .Lt) (iOp0 fun i j => .bool (decide (i < j))) := od_int0 op_lt fun _ _ _ _ => .bl _
theorem od_le : OpD X (compareOp .LtE) (iOp0 fun i j => .bool (decide (i ≤ j))) := od_int0 op_le fun _ _ _ _ => .bl _
theorem od_gt : OpD X (compareOp .Gt) (iOp0 fun i j => .bool (decide (j < i))) := od_int0 op_gt fun _ _ _ _ => .bl _
theorem od_ge : OpD X (compareOp .GtE) (iOp0 fun i j => .bool (decide (j ≤ i))) := od_int0 op_ge fun _ _ _ _ => .bl _
def allD : List DV → Option (List PyData)
  | [] => some []
  | .d x :: r => (allD r).map (x :: ·)
  | _ :: _ => none
theorem allD_eq : ∀ {ds : List DV} {xs : List PyData}, allD ds = some xs → ds = xs.map DV.d
  | [], _, h => by cases h; rfl
  | .d x :: r, _, h => by
    unfold allD at h
    obtain ⟨l, e, rfl⟩ := Option.map_eq_some_iff.mp h
    rw [allD_eq e]
    rfl
  | .r _ :: _, _, h => by cases h
  | .s _ :: _, _, h => by cases h
theorem allD_map : ∀ xs : List PyData, allD (xs.map DV.d) = some xs
  | [] => rfl
  | x :: xs => by show (allD (xs.map DV.d)).map (x :: ·) = _; rw [allD_map xs]; rfl
def lstMD (M : Mem) (a : Addr) : Option (List PyData) := match M a with
  | some (.lst xs) => allD xs
  | _ => none
theorem lstMD_inv {K : PySem.W.Frag} {H : Hp} {M : Mem} {a : Addr} {ds : List PyData} (R : RelM K H M) (h : lstMD M a = some ds) : ∃ vs, H a = some (.lst vs) ∧ RepA K H M vs ds := by
  unfold lstMD at h
  split at h
  · rename_i xs hm
    obtain ⟨vs, hv, rl⟩ := R a _ hm
    rw [allD_eq h] at rl
    exact ⟨vs, hv, RepL.toA rl⟩
  · cases h
def optD {α : Type} : Option α → (α → Prop) → Prop
  | some x, k => k x
  | none, _ => False
theorem optD_inv {α : Type} {o : Option α} {k : α → Prop} (h : optD o k) : ∃ x, o = some x ∧ k x := by
  cases o with
  | some x => exact ⟨_, rfl, h⟩
  | none => exact h.elim
def addD : DV → DV → Mem → DQ → Prop
  | .d (.int i), .d (.int j), M, Q => Q (.d (.int (i + j))) M
  | .d (.str i), .d (.str j), M, Q => i.length + j.length ≤ sizeLine ∧ Q (.d (.str (i ++ j))) M
  | .d (.tuple xs), .d (.tuple ys), M, Q => xs.length + ys.length ≤ sizeLine ∧ Q (.d (.tuple (xs ++ ys))) M
  | .d (.list xs), .d (.list ys), M, Q => xs.length + ys.length ≤ sizeLine ∧ Q (.d (.list (xs ++ ys))) M
  | .r a, .d (.list ys), M, Q => optD (lstMD M a) fun xs => xs.length + ys.length ≤ sizeLine ∧ Q (.d (.list (xs ++ ys))) M
  | .d (.list xs), .r b, M, Q => optD (lstMD M b) fun ys => xs.length + ys.length ≤ sizeLine ∧ Q (.d (.list (xs ++ ys))) M
  | .r a, .r b, M, Q => optD (lstMD M a) fun xs => optD (lstMD M b) fun ys => xs.length + ys.length ≤ sizeLine ∧ Q (.d (.list (xs ++ ys))) M
  | _, _, M, Q => False
theorem RepP.tup_inv {K : PySem.W.Frag} {H : Hp} {M : Mem} {v : V} {ds : List PyData} (h : RepP K H M v (.tuple ds)) : ∃ a xs, v = .ref a ∧ SqT K H a xs ∧ RepA K H M xs ds := by
  cases h with
  | tup e n r => exact ⟨_, _, rfl, SqT.of e, r⟩
  | ktp e r => exact ⟨_, _, rfl, .inr e, r⟩
theorem RepP.lst_inv {K : PySem.W.Frag} {H : Hp} {M : Mem} {v : V} {ds : List PyData} (h : RepP K H M v (.list ds)) : ∃ a xs, v = .ref a ∧ H a = some (.lst xs) ∧ M a = none ∧ RepA K H M xs ds := by
  cases h with
  | lst e n r => exact ⟨_, _, rfl, e, n, r⟩
theorem EndD.tup {K : PySem.W.Frag} {H : Hp} {M : Mem} {Qd : DQ} {Q : VK} {xs : List V} {ds : List PyData} {p : Addr} (E : EndD K H M Qd Q) (R : RelM K H M) (r : RepA K H M xs ds) (hp : H p = none) (q : Qd (.d (.tuple ds)) M) : Q (.ref p) (upd H p (.tup xs)) :=
  E (.d (.tuple ds)) M _ _ (Keep.new R hp) (R.new hp) (.tup upd_same (R.no hp) (RepA.keep (Keep.new R hp) _ _ r)) q
theorem EndD.lst {K : PySem.W.Frag} {H : Hp} {M : Mem} {Qd : DQ} {Q : VK} {xs : List V} {ds : List PyData} {p : Addr} (E : EndD K H M Qd Q) (R : RelM K H M) (r : RepA K H M xs ds) (hp : H p = none) (q : Qd (.d (.list ds)) M) : Q (.ref p) (upd H p (.lst xs)) :=
  E (.d (.list ds)) M _ _ (Keep.new R hp) (R.new hp) (.lst upd_same (R.no hp) (RepA.keep (Keep.new R hp) _ _ r)) q
theorem RepA.nil_iff {K : PySem.W.Frag} {H : Hp} {M : Mem} {xs : List V} {ds : List PyData} (r : RepA K H M xs ds) : xs = [] ↔ ds = [] := by
  have := r.length
  cases xs <;> cases ds <;> simp_all
theorem od_add : OpD X (binaryOp .Add) addD :=
  opR_imp (op_add.or (op_add_str.or (op_catA.or op_cat))) fun x y H Q ⟨dx, dy, M, Qd, R, rx, ry, q, E⟩ => by
    unfold addD at q
    split at q
    · exact .inl ⟨_, _, RepP.int_inv rx, RepP.int_inv ry, E (.d _) _ _ _ (Keep.refl _ _) R (.int _) q⟩
    · exact .inr (.inl ⟨_, _, RepP.str_inv rx, RepP.str_inv ry, q.1, E (.d _) _ _ _ (Keep.refl _ _) R (.str _) q.2⟩)
    · rename_i ds es
      have rx : RepP _ _ _ _ _ := rx
      have ry : RepP _ _ _ _ _ := ry
      obtain ⟨a, xs, e1, s1, r1⟩ := RepP.tup_inv rx
      obtain ⟨b, ys, e2, s2, r2⟩ := RepP.tup_inv ry
      refine .inr (.inr (.inl ⟨a, b, xs, ys, e1, e2, s1, s2, by rw [r1.length, r2.length]; exact q.1, fun z => ?_, fun z z' => ?_, fun _ _ p hp => ?_⟩))
      · have z := r1.nil_iff.mp z
        subst z
        rw [← e2]
        exact E (.d _) _ _ _ (Keep.refl _ _) R ry q.2
      · have z := r2.nil_iff.mp z'
        subst z
        rw [← e1]
        exact E (.d (.tuple ds)) _ _ _ (Keep.refl _ _) R rx (by simpa using q.2)
      · exact E.tup R (r1.append r2) hp q.2
    · rename_i ds es
      obtain ⟨a, xs, e1, s1, _, r1⟩ := RepP.lst_inv rx
      obtain ⟨b, ys, e2, s2, _, r2⟩ := RepP.lst_inv ry
      exact .inr (.inr (.inr ⟨a, b, xs, ys, e1, e2, s1, s2, by rw [r1.length, r2.length]; exact q.1, fun p hp => E.lst R (r1.append r2) hp q.2⟩))
    · rename_i a es
      obtain ⟨ds, e, q⟩ := optD_inv q
      obtain ⟨xs, s1, r1⟩ := lstMD_inv R e
      obtain ⟨b, ys, e2, s2, _, r2⟩ := RepP.lst_inv ry
      exact .inr (.inr (.inr ⟨a, b, xs, ys, rx, e2, s1, s2, by rw [r1.length, r2.length]; exact q.1, fun p hp => E.lst R (r1.append r2) hp q.2⟩))
    · rename_i ds b
      obtain ⟨es, e, q⟩ := optD_inv q
      obtain ⟨ys, s2, r2⟩ := lstMD_inv R e
      obtain ⟨a, xs, e1, s1, _, r1⟩ := RepP.lst_inv rx
      exact .inr (.inr (.inr ⟨a, b, xs, ys, e1, ry, s1, s2, by rw [r1.length, r2.length]; exact q.1, fun p hp => E.lst R (r1.append r2) hp q.2⟩))
    · rename_i a b
      obtain ⟨ds, e, q⟩ := optD_inv q
      obtain ⟨es, e', q⟩ := optD_inv q
      obtain ⟨xs, s1, r1⟩ := lstMD_inv R e
      obtain ⟨ys, s2, r2⟩ := lstMD_inv R e'
      exact .inr (.inr (.inr ⟨a, b, xs, ys, rx, ry, s1, s2, by rw [r1.length, r2.length]; exact q.1, fun p hp => E.lst R (r1.append r2) hp q.2⟩))
    · exact q.elim
def mulD : R2D := iOp CMul fun i j => .int (i * j)
theorem od_mul : OpD X (binaryOp .Mult) mulD := od_int op_mul fun _ _ _ _ => .int _
def wNeg (w : WE) : WE := fun δ M Q => w δ M fun x M1 => match x with
  | .d (.int i) => Q (.d (.int (-i))) M1
  | _ => False
theorem de_neg {a : Expr} {pos : Pos} {wa : WE} (ha : DE X a wa) : DE X (.UnaryOp .USub a pos) (wNeg wa) :=
  pe_imp (pe_un un_neg ha) fun σ H Q ⟨δ, M, Qd, S, R, h, E⟩ => by
    refine ⟨δ, M, _, S, R, h, fun d M1 v H1 k1 R1 r1 h1 => ?_⟩
    split at h1
    · exact ⟨_, RepP.int_inv r1, E (.d _) _ _ _ k1 R1 (.int _) h1⟩
    · exact h1.elim

mutual
theorem RepP.reads {pins : List (Addr × Obj)} {σ : St} {H : Hp} {M : Mem} {s : Shared} (I : Inv X pins σ H s) : ∀ (d : PyData) (v : V) (u : Value), RepP X.K H M v d → RelV v u → ∃ as, Reads s.heap u d as
  | .none, _, _, h, r => by
    cases h; cases r
    exact ⟨_, Reads.none⟩
  | .bool b, _, _, h, r => by
    cases h; cases r
    exact ⟨_, Reads.bool b⟩
  | .int i, _, _, h, r => by
    cases h
    obtain ⟨t, rfl⟩ := r
    exact ⟨_, Reads.int i t⟩
  | .str x, _, _, h, r => by
    cases h
    obtain ⟨t, rfl⟩ := r
    exact ⟨_, Reads.str x t⟩
  | .list ds, _, _, h, r => by
    cases h with
    | lst e n ha =>
      cases r
      obtain ⟨its, rv, ⟨o, n, ho, hc, _, hd⟩, _⟩ := I.list (SqL.of e)
      obtain ⟨as, hr⟩ := RepA.reads I ds _ its ha rv
      exact ⟨_, Reads.list ho hc hd hr⟩
  | .tuple ds, _, _, h, r => by
    obtain ⟨a, xs, e, hs, ha⟩ := RepP.tup_inv h
    subst e
    cases r
    obtain ⟨its, rv, ⟨o, ho, hc, n, hd⟩, _⟩ := I.tuple hs
    obtain ⟨as, hr⟩ := RepA.reads I ds _ its ha rv
    exact ⟨_, Reads.tuple ho hc hd hr⟩
  | .dict _, _, _, h, r => by
    cases h with
    | dct0 e n =>
      cases r
      obtain ⟨_, _, vs, kv, o, es, ep, ho, ex, hd, _, hp, _⟩ := I.hok _ _ e
      cases kv
      have hes : es.toList = [] := by
        cases q : es.toList with
        | nil => rfl
        | cons x l => rw [q] at hp; cases hp
      exact ⟨_, Reads.dict (kvs := []) ho ex.1 hd (by rw [hes]; exact ReadsAll.nil) (by rw [hes]; exact ReadsAll.nil)⟩
theorem RepA.reads {pins : List (Addr × Obj)} {σ : St} {H : Hp} {M : Mem} {s : Shared} (I : Inv X pins σ H s) : ∀ (ds : List PyData) (vs : List V) (us : List Value), RepA X.K H M vs ds → Vals vs us → ∃ as, ReadsAll s.heap us ds as
  | [], _, _, h, r => by
    cases h; cases r
    exact ⟨_, ReadsAll.nil⟩
  | d :: ds, _, _, h, r => by
    cases h with
    | cons h1 h2 =>
      cases r with
      | cons r1 r2 =>
        obtain ⟨as, q1⟩ := RepP.reads I d _ _ h1 r1
        obtain ⟨bs, q2⟩ := RepA.reads I ds _ _ h2 r2
        exact ⟨_, ReadsAll.cons q1 q2⟩
end
def eqOk : PyData → PyData → Bool
  | .str _, .str _ => true
  | a, b => SeqAt.shaped a && SeqAt.shaped b
def eqD (neg : Bool) : DV → DV → Mem → DQ → Prop
  | .d a, .d b, M, Q => eqOk a b = true ∧ Q (.d (.bool (if neg then !PyData.eqv a b else PyData.eqv a b))) M
  | _, _, M, Q => False
theorem eqOk_inv {a b : PyData} (h : eqOk a b = true) : (∃ i j, a = .str i ∧ b = .str j) ∨ (SeqAt.shaped a = true ∧ SeqAt.shaped b = true) := by
  unfold eqOk at h
  split at h
  · exact .inl ⟨_, _, rfl, rfl⟩
  · exact .inr (Bool.and_eq_true_iff.mp h)
theorem od_eq (hu : X.A.units + 64 < cLine) : OpD X (compareOp .Eq) (eqD false) := by
  intro pins s σ H x y v u Q I rv ru ⟨dx, dy, M, Qd, R, rx, ry, q, E⟩
  unfold eqD at q
  split at q
  · obtain ⟨q1, q2⟩ := q
    rcases eqOk_inv q1 with ⟨i, j, rfl, rfl⟩ | ⟨qa, qb⟩
    · cases RepP.str_inv rx
      cases RepP.str_inv ry
      obtain ⟨t, rfl⟩ := rv
      obtain ⟨t', rfl⟩ := ru
      exact PyProof.Rows.eq_str ⟨.bl _, H, I, rfl, E (.d (.bool (i == j))) _ _ _ (Keep.refl _ _) R (.bl _) (by simpa [PyData.eqv] using q2)⟩
    · obtain ⟨as, h1⟩ := RepP.reads I _ x v rx rv
      obtain ⟨bs, h2⟩ := RepP.reads I _ y u ry ru
      exact SeqAt.compareEq_shaped h1 h2 qa qb hu ⟨.bl _, H, I, rfl, E (.d _) _ _ _ (Keep.refl _ _) R (.bl _) q2⟩
  · exact q.elim
theorem od_ne (hu : X.A.units + 64 < cLine) : OpD X (compareOp .NotEq) (eqD true) := by
  intro pins s σ H x y v u Q I rv ru ⟨dx, dy, M, Qd, R, rx, ry, q, E⟩
  unfold eqD at q
  split at q
  · obtain ⟨q1, q2⟩ := q
    rcases eqOk_inv q1 with ⟨i, j, rfl, rfl⟩ | ⟨qa, qb⟩
    · cases RepP.str_inv rx
      cases RepP.str_inv ry
      obtain ⟨t, rfl⟩ := rv
      obtain ⟨t', rfl⟩ := ru
      exact PyProof.Rows.ne_str ⟨.bl _, H, I, rfl, E (.d (.bool (i != j))) _ _ _ (Keep.refl _ _) R (.bl _) (by simpa [PyData.eqv, bne] using q2)⟩
    · obtain ⟨as, h1⟩ := RepP.reads I _ x v rx rv
      obtain ⟨bs, h2⟩ := RepP.reads I _ y u ry ru
      exact SeqAt.compareNe_shaped h1 h2 qa qb hu ⟨.bl _, H, I, rfl, E (.d _) _ _ _ (Keep.refl _ _) R (.bl _) q2⟩
  · exact q.elim
def inD (neg : Bool) : DV → DV → Mem → DQ → Prop
  | .d a, .d (.tuple bs), M, Q => SeqAt.shaped a = true ∧ SeqAt.shaped (.tuple bs) = true ∧ Q (.d (.bool (if neg then !bs.any fun y => PyData.eqv y a else bs.any fun y => PyData.eqv y a))) M
  | .d a, .d (.list bs), M, Q => SeqAt.shaped a = true ∧ SeqAt.shaped (.list bs) = true ∧ Q (.d (.bool (if neg then !bs.any fun y => PyData.eqv y a else bs.any fun y => PyData.eqv y a))) M
  | _, _, M, Q => False
theorem room_in {A : Around} {d : PyData} {ds : List PyData} (h : SeqAt.shaped d = true) (hu : A.units + 65 < cLine) : A.units + 1 + min (PyData.depthAll ds) d.depth < cLine := by
  have h1 := SeqAt.depth_of_shaped h
  have h2 : min (PyData.depthAll ds) d.depth ≤ d.depth := Nat.min_le_right _ _
  omega
theorem od_in (hu : X.A.units + 65 < cLine) : OpD X (compareOp .In) (inD false) := by
  intro pins s σ H x y v u Q I rv ru ⟨dx, dy, M, Qd, R, rx, ry, q, E⟩
  unfold inD at q
  split at q
  all_goals first
    | exact q.elim
    | (obtain ⟨as, h1⟩ := RepP.reads I _ x v rx rv
       obtain ⟨bs, h2⟩ := RepP.reads I _ y u ry ru
       first
         | exact P3.in_tuple_reads h2 h1 (SeqAt.canLay_of_shaped q.2.1) (SeqAt.canLay_of_shaped q.1) (room_in q.1 hu) ⟨.bl _, H, I, rfl, E (.d _) _ _ _ (Keep.refl _ _) R (.bl _) q.2.2⟩
         | exact SeqAt.in_tuple_reads h2 h1 (SeqAt.canLay_of_shaped q.2.1) (SeqAt.canLay_of_shaped q.1) (room_in q.1 hu) ⟨.bl _, H, I, rfl, E (.d _) _ _ _ (Keep.refl _ _) R (.bl _) q.2.2⟩
         | exact SeqAt.in_list_reads h2 h1 (SeqAt.canLay_of_shaped q.2.1) (SeqAt.canLay_of_shaped q.1) (room_in q.1 hu) ⟨.bl _, H, I, rfl, E (.d _) _ _ _ (Keep.refl _ _) R (.bl _) q.2.2⟩)
theorem od_notin (hu : X.A.units + 65 < cLine) : OpD X (compareOp .NotIn) (inD true) := by
  intro pins s σ H x y v u Q I rv ru ⟨dx, dy, M, Qd, R, rx, ry, q, E⟩
  unfold inD at q
  split at q
  all_goals first
    | exact q.elim
    | (obtain ⟨as, h1⟩ := RepP.reads I _ x v rx rv
       obtain ⟨bs, h2⟩ := RepP.reads I _ y u ry ru
       first
         | exact SeqAt.notIn_tuple_reads h2 h1 (SeqAt.canLay_of_shaped q.2.1) (SeqAt.canLay_of_shaped q.1) (room_in q.1 hu) ⟨.bl _, H, I, rfl, E (.d _) _ _ _ (Keep.refl _ _) R (.bl _) q.2.2⟩
         | exact SeqAt.notIn_list_reads h2 h1 (SeqAt.canLay_of_shaped q.2.1) (SeqAt.canLay_of_shaped q.1) (room_in q.1 hu) ⟨.bl _, H, I, rfl, E (.d _) _ _ _ (Keep.refl _ _) R (.bl _) q.2.2⟩)
def isNone : PyData → Bool
  | .none => true
  | _ => false
def isND (neg : Bool) : DV → DV → Mem → DQ → Prop
  | .d a, .d .none, M, Q => Q (.d (.bool (if neg then !isNone a else isNone a))) M
  | .r _, .d .none, M, Q => Q (.d (.bool neg)) M
  | _, _, M, Q => False
theorem rep_non {K : PySem.W.Frag} {H : Hp} {M : Mem} {v : V} {a : PyData} (h : RepP K H M v a) : decide (v = .non) = isNone a := by
  cases h <;> rfl
theorem od_is : OpD X (compareOp .Is) (isND false) :=
  opR_imp op_isN fun x y H Q ⟨dx, dy, M, Qd, R, rx, ry, q, E⟩ => by
    unfold isND at q
    split at q
    · have ry : RepP _ _ _ _ _ := ry
      cases ry
      refine ⟨rfl, E (.d _) _ _ _ (Keep.refl _ _) R (.bl _) ?_⟩
      rw [rep_non (show RepP _ _ _ _ _ from rx)]
      exact q
    · have ry : RepP _ _ _ _ _ := ry
      cases ry
      have rx : x = _ := rx
      subst rx
      exact ⟨rfl, E (.d _) _ _ _ (Keep.refl _ _) R (.bl _) q⟩
    · exact q.elim
theorem od_isnot : OpD X (compareOp .IsNot) (isND true) :=
  opR_imp op_notN fun x y H Q ⟨dx, dy, M, Qd, R, rx, ry, q, E⟩ => by
    unfold isND at q
    split at q
    · have ry : RepP _ _ _ _ _ := ry
      cases ry
      refine ⟨rfl, E (.d _) _ _ _ (Keep.refl _ _) R (.bl _) ?_⟩
      rw [rep_non (show RepP _ _ _ _ _ from rx)]
      exact q
    · have ry : RepP _ _ _ _ _ := ry
      cases ry
      have rx : x = _ := rx
      subst rx
      exact ⟨rfl, E (.d _) _ _ _ (Keep.refl _ _) R (.bl _) q⟩
    · exact q.elim
variable {a b : Expr} {wa wb : WE} {pos : Pos}
theorem de_bin {op : Operator} {rd : R2D} (ho : OpD X (binaryOp op) rd) (ha : DE X a wa) (hb : DE X b wb) : DE X (.BinOp a op b pos) (wOp rd wa wb) := de_op ho simD ha hb
theorem de_rel {op : CmpOp} {rd : R2D} (ho : OpD X (compareOp op) rd) (ha : DE X a wa) (hb : DE X b wb) (hm : behindInMarks op b = false := by rfl) : DE X (.Compare a [op] [b] pos) (wOp rd wa wb) := de_cmp ho simD ha hb hm
theorem dt_rel {op : CmpOp} {rd : R2D} (ho : OpD X (compareOp op) rd) (ha : DE X a wa) (hb : DE X b wb) (hm : behindInMarks op b = false := by rfl) : DT X (.Compare a [op] [b] pos) (wB (wOp rd wa wb)) := dt_cmp ho simD ha hb hm
def wChain (rd rd' : R2D) (wa wb wc : WE) : WE := fun δ M Q => wa δ M fun x M1 => wb δ M1 fun y M2 => rd x y M2 fun z M3 => match z with
  | .d (.bool k) => if k = true then wc δ M3 fun c M4 => rd' y c M4 Q else Q (.d (.bool false)) M3
  | _ => False
theorem de_chain {op op' : CmpOp} {rd rd' : R2D} {c : Expr} {wc : WE} (ho : OpD X (compareOp op) rd) (ho' : OpD X (compareOp op') rd') (ha : DE X a wa) (hb : DE X b wb) (hc : DE X c wc)
    (hm : lastMarks [op, op'] [b, c] = false := by with_unfolding_all rfl) : DE X (.Compare a [op, op'] [b, c] pos) (wChain rd rd' wa wb wc) :=
  pe_imp (pe_chain ho ho' ha hb hc hm) fun σ H Q ⟨δ, M, Qd, S, R, h, E⟩ => by
    refine ⟨δ, M, _, S, R, h, fun d M1 v H1 k1 R1 r1 h1 => ?_⟩
    refine ⟨δ, M1, _, S.keep k1, R1, h1, fun e M2 u H2 k2 R2 r2 h2 => ?_⟩
    refine ⟨d, e, M2, _, R2, r1.keep k2, r2, h2, fun z M3 w3 H3 k3 R3 r3 h3 => ?_⟩
    split at h3
    · rename_i k
      refine ⟨k, RepP.bl_inv r3, ?_⟩
      by_cases hk : k = true
      · rw [if_pos hk] at h3 ⊢
        refine ⟨δ, M3, _, S.keep ((k1.trans k2).trans k3), R3, h3, fun f M4 w4 H4 k4 R4 r4 h4 => ?_⟩
        exact ⟨e, f, M4, _, R4, (r2.keep k3).keep k4, r4, h4, E.step (((k1.trans k2).trans k3).trans k4)⟩
      · rw [if_neg hk] at h3 ⊢
        exact E (.d _) _ _ _ ((k1.trans k2).trans k3) R3 (.bl _) h3
    · exact h3.elim

def isTru : PyData → Option Bool
  | .none => some false
  | .bool b => some b
  | .int i => some (i != 0)
  | .str x => some (x.length != 0)
  | .list xs => some (!xs.isEmpty)
  | .tuple xs => some (!xs.isEmpty)
  | .dict kvs => some (!kvs.isEmpty)
def wAndT (t u : WT) : WT := fun δ M Q => t δ M fun c M1 => if c = true then u δ M1 Q else Q false M1
def wOrT (t u : WT) : WT := fun δ M Q => t δ M fun c M1 => if c = true then Q true M1 else u δ M1 Q
def wNotT (t : WT) : WT := fun δ M Q => t δ M fun c M1 => Q (!c) M1
variable {tA tB' : WT} {rest : List Expr}
theorem dw_and1 (ha : DT X a tA) : DWh X (.BoolOp .And [a] pos) tA := pw_and1 ha
theorem dw_or1 (ha : DT X a tA) : DWh X (.BoolOp .Or [a] pos) tA := pw_or1 ha
theorem dw_and (ha : DT X a tA) (hb : DWh X (.BoolOp .And (b :: rest) pos) tB') : DWh X (.BoolOp .And (a :: b :: rest) pos) (wAndT tA tB') :=
  pw_imp (pw_and ha hb) fun σ H Q ⟨δ, M, Qd, S, R, h, E⟩ => ⟨δ, M, _, S, R, h, fun c M1 H1 k1 R1 h1 => by
    by_cases hc : c = true
    · rw [if_pos hc] at h1 ⊢
      exact ⟨δ, M1, Qd, S.keep k1, R1, h1, fun e M2 H2 k2 R2 h2 => E e M2 H2 (k1.trans k2) R2 h2⟩
    · rw [if_neg hc] at h1 ⊢
      exact E _ _ _ k1 R1 h1⟩
theorem dw_or (ha : DT X a tA) (hb : DWh X (.BoolOp .Or (b :: rest) pos) tB') : DWh X (.BoolOp .Or (a :: b :: rest) pos) (wOrT tA tB') :=
  pw_imp (pw_or ha hb) fun σ H Q ⟨δ, M, Qd, S, R, h, E⟩ => ⟨δ, M, _, S, R, h, fun c M1 H1 k1 R1 h1 => by
    by_cases hc : c = true
    · rw [if_pos hc] at h1 ⊢
      exact E _ _ _ k1 R1 h1
    · rw [if_neg hc] at h1 ⊢
      exact ⟨δ, M1, Qd, S.keep k1, R1, h1, fun e M2 H2 k2 R2 h2 => E e M2 H2 (k1.trans k2) R2 h2⟩⟩
theorem dt_w {e : Expr} {t : WT} (h : DWh X e t) : DT X e t := PW.pt h
theorem dt_not (ha : DT X a tA) : DT X (.UnaryOp .Not a pos) (wNotT tA) :=
  pt_imp (pt_not ha) fun σ H Q ⟨δ, M, Qd, S, R, h, E⟩ => ⟨δ, M, _, S, R, h, fun c M1 H1 k1 R1 h1 => E _ _ _ k1 R1 h1⟩
def bOf (k : Bool → Mem → Prop) : DQ := fun x M => match x with
  | .d (.bool c) => k c M
  | _ => False
def wAndV (wa wb : WE) : WE := fun δ M Q => wa δ M (bOf fun c M1 => if c = true then wb δ M1 Q else Q (.d (.bool false)) M1)
def wOrV (wa wb : WE) : WE := fun δ M Q => wa δ M (bOf fun c M1 => if c = true then Q (.d (.bool true)) M1 else wb δ M1 Q)
def wNotV (wa : WE) : WE := fun δ M Q => wa δ M (bOf fun c M1 => Q (.d (.bool (!c))) M1)
theorem bOf_inv {K : PySem.W.Frag} {H : Hp} {M : Mem} {k : Bool → Mem → Prop} {x : DV} {v : V} (h : bOf k x M) (r : Rep K H M v x) : ∃ c, v = .bl c ∧ k c M := by
  unfold bOf at h
  split at h
  · exact ⟨_, RepP.bl_inv r, h⟩
  · exact h.elim
theorem de_one {op} {w : WE} (h : DE X a w) : DE X (.BoolOp op [a] pos) w := pe_one h
theorem de_and (ha : DE X a wa) (hb : DE X (.BoolOp .And (b :: rest) pos) wb) : DE X (.BoolOp .And (a :: b :: rest) pos) (wAndV wa wb) :=
  pe_imp (pe_and ha hb) fun σ H Q ⟨δ, M, Qd, S, R, h, E⟩ => ⟨δ, M, _, S, R, h, fun d M1 v H1 k1 R1 r1 h1 => by
    obtain ⟨c, e, h1⟩ := bOf_inv h1 r1
    refine ⟨c, e, ?_⟩
    by_cases hc : c = true
    · rw [if_pos hc] at h1 ⊢
      exact ⟨δ, M1, Qd, S.keep k1, R1, h1, E.step k1⟩
    · rw [if_neg hc] at h1 ⊢
      exact E (.d _) _ _ _ k1 R1 (.bl _) h1⟩
theorem de_or (ha : DE X a wa) (hb : DE X (.BoolOp .Or (b :: rest) pos) wb) : DE X (.BoolOp .Or (a :: b :: rest) pos) (wOrV wa wb) :=
  pe_imp (pe_or ha hb) fun σ H Q ⟨δ, M, Qd, S, R, h, E⟩ => ⟨δ, M, _, S, R, h, fun d M1 v H1 k1 R1 r1 h1 => by
    obtain ⟨c, e, h1⟩ := bOf_inv h1 r1
    refine ⟨c, e, ?_⟩
    by_cases hc : c = true
    · rw [if_pos hc] at h1 ⊢
      exact E (.d _) _ _ _ k1 R1 (.bl _) h1
    · rw [if_neg hc] at h1 ⊢
      exact ⟨δ, M1, Qd, S.keep k1, R1, h1, E.step k1⟩⟩
theorem de_not (ha : DE X a wa) : DE X (.UnaryOp .Not a pos) (wNotV wa) :=
  pe_imp (pe_not ha) fun σ H Q ⟨δ, M, Qd, S, R, h, E⟩ => ⟨δ, M, _, S, R, h, fun d M1 v H1 k1 R1 r1 h1 => by
    obtain ⟨c, e, h1⟩ := bOf_inv h1 r1
    exact ⟨c, e, E (.d _) _ _ _ k1 R1 (.bl _) h1⟩⟩
def wIf (t : WT) (wa wb : WE) : WE := fun δ M Q => t δ M fun c M1 => if c = true then wa δ M1 Q else wb δ M1 Q
theorem de_ifExp {c : Expr} (hc : DT X c tA) (ha : DE X a wa) (hb : DE X b wb) : DE X (.IfExp c a b pos) (wIf tA wa wb) :=
  pe_imp (pe_ifExp hc ha hb) fun σ H Q ⟨δ, M, Qd, S, R, h, E⟩ => ⟨δ, M, _, S, R, h, fun c M1 H1 k1 R1 h1 => by
    by_cases hc : c = true
    · rw [if_pos hc] at h1 ⊢
      exact ⟨δ, M1, Qd, S.keep k1, R1, h1, E.step k1⟩
    · rw [if_neg hc] at h1 ⊢
      exact ⟨δ, M1, Qd, S.keep k1, R1, h1, E.step k1⟩⟩

def wNil : WA := fun _ M Q => Q [] M
def wCons (w : WE) (wr : WA) : WA := fun δ M Q => w δ M fun x M1 => wr δ M1 fun xs M2 => Q (x :: xs) M2
variable {e : Expr} {es : List Expr} {we : WE} {wr : WA}
theorem da_nil : DA X [] wNil := pa_imp pa_nil fun σ H Q ⟨δ, M, Qd, S, R, h, E⟩ => E [] M [] H (Keep.refl _ _) R .nil h
theorem da_cons (ha : DE X e we) (hr : DA X es wr) (hs : starEach (e :: es) X.env = (false, eval e X.env) :: starEach es X.env := by rfl) : DA X (e :: es) (wCons we wr) :=
  pa_imp (pa_cons ha hr hs) fun σ H Q ⟨δ, M, Qd, S, R, h, E⟩ => ⟨δ, M, _, S, R, h, fun d M1 v H1 k1 R1 r1 h1 =>
    ⟨δ, M1, _, S.keep k1, R1, h1, fun ds M2 vs H2 k2 R2 r2 h2 => E (d :: ds) M2 (v :: vs) H2 (k1.trans k2) R2 (.cons (r1.keep k2) r2) h2⟩⟩
def mkD (g : List PyData → PyData) (wr : WA) : WE := fun δ M Q => wr δ M fun ds M1 => match allD ds with
  | some xs => xs.length ≤ sizeLine ∧ Q (.d (g xs)) M1
  | none => False
theorem de_tup {x1} (h : DA X es wr) : DE X (.Tuple es x1 pos) (mkD .tuple wr) :=
  pe_imp (pe_tup h) fun σ H Q ⟨δ, M, Qd, S, R, h, E⟩ => ⟨δ, M, _, S, R, h, fun ds M1 vs H1 k1 R1 r1 h1 => by
    split at h1
    · rename_i xs e
      rw [allD_eq e] at r1
      have r2 := RepL.toA r1
      exact ⟨by rw [r2.length]; exact h1.1, fun p hp => (E.step k1).tup R1 r2 hp h1.2⟩
    · exact h1.elim⟩
theorem de_lst (h : DA X es wr) : DE X (.List es pos) (mkD .list wr) :=
  pe_imp (pe_lst h) fun σ H Q ⟨δ, M, Qd, S, R, h, E⟩ => ⟨δ, M, _, S, R, h, fun ds M1 vs H1 k1 R1 r1 h1 => by
    split at h1
    · rename_i xs e
      rw [allD_eq e] at r1
      have r2 := RepL.toA r1
      exact ⟨by rw [r2.length]; exact h1.1, fun p hp => (E.step k1).lst R1 r2 hp h1.2⟩
    · exact h1.elim⟩
def wLstM (wr : WA) : WE := fun δ M Q => wr δ M fun ds M1 => ds.length ≤ sizeLine ∧ ∀ p, M1 p = none → Q (.r p) (mupd M1 p (.lst ds))
def wTupM (wr : WA) : WE := fun δ M Q => wr δ M fun ds M1 => ds.length ≤ sizeLine ∧ ∀ p, M1 p = none → Q (.r p) (mupd M1 p (.tup ds))
theorem de_lstM (h : DA X es wr) : DE X (.List es pos) (wLstM wr) :=
  pe_imp (pe_lst h) fun σ H Q ⟨δ, M, Qd, S, R, h, E⟩ => ⟨δ, M, _, S, R, h, fun ds M1 vs H1 k1 R1 r1 h1 =>
    ⟨by rw [Paired.length r1]; exact h1.1, fun p hp => E (.r p) _ _ _ (k1.trans (Keep.newM R1 hp)) (R1.newM (m := .lst ds) hp ⟨vs, upd_same, r1.keep (Keep.newM R1 hp)⟩) rfl (h1.2 p (R1.no hp))⟩⟩
theorem de_tupM {x1} (h : DA X es wr) : DE X (.Tuple es x1 pos) (wTupM wr) :=
  pe_imp (pe_tup h) fun σ H Q ⟨δ, M, Qd, S, R, h, E⟩ => ⟨δ, M, _, S, R, h, fun ds M1 vs H1 k1 R1 r1 h1 =>
    ⟨by rw [Paired.length r1]; exact h1.1, fun p hp => E (.r p) _ _ _ (k1.trans (Keep.newM R1 hp)) (R1.newM (m := .tup ds) hp ⟨vs, upd_same, r1.keep (Keep.newM R1 hp)⟩) rfl (h1.2 p (R1.no hp))⟩⟩
theorem de_dct0 : DE X (.Dict [] [] pos) (wC (.d (.dict []))) :=
  pe_imp pe_dnewK fun σ H Q ⟨δ, M, Qd, S, R, h, E⟩ => fun p hp => E (.d (.dict [])) _ _ _ (Keep.new R hp) (R.new hp) (.dct0 upd_same (R.no hp)) h

def moL : MO → List DV
  | .lst xs => xs
  | .tup xs => xs
def ixD : DV → DV → Mem → DQ → Prop
  | .d (.tuple xs), .d (.int i), M, Q => optD (L2.atI xs i) fun v => Q (.d v) M
  | .d (.list xs), .d (.int i), M, Q => optD (L2.atI xs i) fun v => Q (.d v) M
  | .d (.str z), .d (.int i), M, Q => z.length ≤ sizeLine ∧ optD (L2.atI z.cps.toList i) fun c => Q (.d (.str ⟨#[c]⟩)) M
  | .r a, .d (.int i), M, Q => optD (M a) fun o => optD (L2.atI (moL o) i) fun v => Q v M
  | _, _, M, Q => False
theorem RepL.get {K : PySem.W.Frag} {H : Hp} {M : Mem} : ∀ {vs : List V} {ds : List DV} {i : Nat} {d : DV}, RepL K H M vs ds → ds[i]? = some d → ∃ v, vs[i]? = some v ∧ Rep K H M v d
  | _, [], _, _, _, e => by simp at e
  | _, d :: ds, 0, _, h, e => by
    cases h with
    | cons h1 h2 =>
      simp at e
      subst e
      exact ⟨_, rfl, h1⟩
  | _, d :: ds, i + 1, _, h, e => by
    cases h with
    | cons h1 h2 =>
      obtain ⟨v, a, b⟩ := RepL.get (i := i) h2 (by simpa using e)
      exact ⟨v, by simpa using a, b⟩
theorem RepL.atI {K : PySem.W.Frag} {H : Hp} {M : Mem} {vs : List V} {ds : List DV} {i : Int} {d : DV} (h : RepL K H M vs ds) (e : L2.atI ds i = some d) : ∃ v, L2.atI vs i = some v ∧ Rep K H M v d := by
  unfold L2.atI at e ⊢
  rw [Paired.length h]
  cases q : ixN ds.length i with
  | none => rw [q] at e; cases e
  | some j =>
    rw [q] at e
    exact RepL.get h e
theorem ix_imp {r r' : R2} (h : IxR X r) (i : ∀ x y H Q, r' x y H Q → r x y H Q) : IxR X r' := fun value slice pins s σ H x y v u Q I rx ry q => h value slice pins s σ H x y v u Q I rx ry (i _ _ _ _ q)
theorem xd_ix : IxR X (rD X.K ixD) :=
  ix_imp ix_seq fun x y H Q ⟨dx, dy, M, Qd, R, rx, ry, q, E⟩ => by
    unfold ixD at q
    split at q
    · rename_i xs i
      obtain ⟨a, vs, e1, s1, r1⟩ := RepP.tup_inv rx
      obtain ⟨w, hw, q⟩ := optD_inv q
      obtain ⟨v, hv, rv⟩ := r1.atI hw
      exact .inr (.inl ⟨a, vs, i, v, e1, RepP.int_inv ry, s1, hv, E (.d w) _ _ _ (Keep.refl _ _) R rv q⟩)
    · rename_i xs i
      obtain ⟨a, vs, e1, s1, _, r1⟩ := RepP.lst_inv rx
      obtain ⟨w, hw, q⟩ := optD_inv q
      obtain ⟨v, hv, rv⟩ := r1.atI hw
      exact .inl ⟨a, vs, i, v, e1, RepP.int_inv ry, SqL.of s1, hv, E (.d w) _ _ _ (Keep.refl _ _) R rv q⟩
    · rename_i z i
      obtain ⟨hz, q⟩ := q
      obtain ⟨c, hc, q⟩ := optD_inv q
      exact .inr (.inr ⟨z, i, c, RepP.str_inv rx, RepP.int_inv ry, hz, hc, E (.d _) _ _ _ (Keep.refl _ _) R (.str _) q⟩)
    · rename_i a i
      have rx : x = .ref a := rx
      obtain ⟨o, hm, q1⟩ := optD_inv q
      obtain ⟨w, hw, q2⟩ := optD_inv q1
      clear q q1
      cases o with
      | lst xs =>
        obtain ⟨vs, hv, rl⟩ := R a _ hm
        obtain ⟨v, hv', rv⟩ := RepL.atI rl hw
        exact .inl ⟨a, vs, i, v, rx, RepP.int_inv ry, SqL.of hv, hv', E w _ _ _ (Keep.refl _ _) R rv q2⟩
      | tup xs =>
        obtain ⟨vs, hv, rl⟩ := R a _ hm
        obtain ⟨v, hv', rv⟩ := RepL.atI rl hw
        exact .inr (.inl ⟨a, vs, i, v, rx, RepP.int_inv ry, SqT.of hv, hv', E w _ _ _ (Keep.refl _ _) R rv q2⟩)
    · exact q.elim
theorem de_ix (ha : DE X a wa) (hb : DE X b wb) (hs : PlainIx b := by exact fun _ _ => rfl) : DE X (.Subscript a b pos) (wOp ixD wa wb) :=
  pe_imp (pe_ix xd_ix ha hb hs) fun _ _ _ h => lift2 simD h

def wNoPart : SD → Mem → (Option Int → Mem → Prop) → Prop := fun _ M Q => Q none M
def wPart (w : WE) : SD → Mem → (Option Int → Mem → Prop) → Prop := fun δ M Q => w δ M fun x M1 => match x with
  | .d (.int i) => Q (some i) M1
  | _ => False
def liftO (K : PySem.W.Frag) (w : SD → Mem → (Option Int → Mem → Prop) → Prop) : TO := fun σ H Q => ∃ δ M Qd, RepS K H M σ δ ∧ RelM K H M ∧ w δ M Qd ∧ ∀ b M' H', Keep H M H' M' → RelM K H' M' → Qd b M' → Q b H'
abbrev DO (X : Cx) (o : Option Expr) (w : SD → Mem → (Option Int → Mem → Prop) → Prop) : Prop := PO X o (liftO X.K w)
theorem po_imp {o : Option Expr} {t t' : TO} (h : PO X o t) (i : ∀ σ H Q, t' σ H Q → t σ H Q) : PO X o t' := ⟨fun pins s σ H Q I q => h.run pins s σ H Q I (i σ H Q q)⟩
theorem do_none : DO X none wNoPart := po_imp po_none fun σ H Q ⟨δ, M, Qd, S, R, h, E⟩ => E _ _ _ (Keep.refl _ _) R h
theorem do_some (h : DE X e we) : DO X (some e) (wPart we) := po_imp (po_some h) fun σ H Q ⟨δ, M, Qd, S, R, h, E⟩ => ⟨δ, M, _, S, R, h, fun d M1 v H1 k1 R1 r1 h1 => by
  split at h1
  · exact ⟨_, RepP.int_inv r1, E _ _ _ k1 R1 h1⟩
  · exact h1.elim⟩
def cutD {α : Type} (xs : List α) (lo hi : Option Int) : List α := (xs.drop (HT.sIx xs.length 0 lo)).take (HT.sIx xs.length xs.length hi - HT.sIx xs.length 0 lo)
def slD : DV → Option Int → Option Int → Mem → DQ → Prop
  | .d (.tuple xs), lo, hi, M, Q => Q (.d (.tuple (cutD xs lo hi))) M
  | .d (.list xs), lo, hi, M, Q => Q (.d (.list (cutD xs lo hi))) M
  | .s ns, lo, hi, M, Q => Q (.d (.list ((cutD ns lo hi).map .int))) M
  | .r a, lo, hi, M, Q => optD (lstMD M a) fun xs => Q (.d (.list (cutD xs lo hi))) M
  | _, _, _, _, _ => False
def wSl (we : WE) (wl wh : SD → Mem → (Option Int → Mem → Prop) → Prop) : WE := fun δ M Q => we δ M fun x M1 => wl δ M1 fun l M2 => wh δ M2 fun u M3 => slD x l u M3 Q
theorem RepA.cut {K : PySem.W.Frag} {H : Hp} {M : Mem} {vs : List V} {ds : List PyData} (h : RepA K H M vs ds) (lo hi : Option Int) : RepA K H M (cutV vs lo hi) (cutD ds lo hi) := by
  unfold cutV cutD
  rw [h.length]
  exact (h.drop _).take _
theorem RepA.ints {K : PySem.W.Frag} {H : Hp} {M : Mem} : ∀ ns : List Int, RepA K H M (ns.map V.int) (ns.map PyData.int)
  | [] => .nil
  | n :: ns => .cons (.int n) (RepA.ints ns)
theorem cutV_ints (ns : List Int) (lo hi : Option Int) : cutV (ns.map V.int) lo hi = (cutD ns lo hi).map V.int := by
  unfold cutV cutD
  rw [List.length_map, ← List.map_drop, ← List.map_take]
def rSlAny (K : PySem.W.Frag) : V → Option Int → Option Int → Hp → VK → Prop := fun x lo hi H Q => rSlA K x lo hi H Q ∨ rSlL K x lo hi H Q
theorem sIx_full {n : Nat} {lo hi : Option Int} (h : HT.sIx n 0 lo = 0 ∧ HT.sIx n n hi = n) {α : Type} (xs : List α) (hl : xs.length = n) : cutD xs lo hi = xs := by
  unfold cutD
  rw [hl, h.1, h.2, ← hl]
  simp
theorem de_slice {lo hi : Option Expr} {wl wh : SD → Mem → (Option Int → Mem → Prop) → Prop} {p2 : Pos} (he : DE X e we) (hl : DO X lo wl) (hu : DO X hi wh) : DE X (.Subscript e (.Slice lo hi none p2) pos) (wSl we wl wh) :=
  pe_imp (pe_slice (sl_tupA.or sl_list) he hl hu) fun σ H Q ⟨δ, M, Qd, S, R, h, E⟩ => ⟨δ, M, _, S, R, h, fun d M1 v H1 k1 R1 r1 h1 =>
    ⟨δ, M1, _, S.keep k1, R1, h1, fun l M2 H2 k2 R2 h2 => ⟨δ, M2, _, (S.keep k1).keep k2, R2, h2, fun u M3 H3 k3 R3 h3 => by
      have E3 := E.step ((k1.trans k2).trans k3)
      have r3 := (r1.keep k2).keep k3
      unfold slD at h3
      split at h3
      · rename_i xs
        have r3 : RepP _ _ _ _ _ := r3
        obtain ⟨a, vs, e1, s1, ra⟩ := RepP.tup_inv r3
        subst e1
        refine .inl ⟨a, vs, rfl, s1, fun z => ?_, fun _ p hp => E3.tup R3 (ra.cut l u) hp h3⟩
        refine E3 (.d (.tuple xs)) _ _ _ (Keep.refl _ _) R3 r3 ?_
        rw [sIx_full z xs ra.length.symm] at h3
        exact h3
      · rename_i xs
        have r3 : RepP _ _ _ _ _ := r3
        obtain ⟨a, vs, e1, s1, _, ra⟩ := RepP.lst_inv r3
        exact .inr ⟨a, vs, e1, SqL.of s1, fun p hp => E3.lst R3 (ra.cut l u) hp h3⟩
      · rename_i ns
        obtain ⟨a, e1, s1⟩ := r3
        refine .inr ⟨a, ns.map V.int, e1, ?_, fun p hp => ?_⟩
        · rcases s1 with ⟨s1, _⟩ | s1
          · exact .inl s1
          · exact .inr s1
        · rw [cutV_ints]
          exact E3.lst R3 (RepA.ints _) hp h3
      · rename_i a
        obtain ⟨xs, e, h3⟩ := optD_inv h3
        obtain ⟨vs, hv, ra⟩ := lstMD_inv R3 e
        exact .inr ⟨a, vs, r3, SqL.of hv, fun p hp => E3.lst R3 (ra.cut l u) hp h3⟩
      · exact h3.elim⟩⟩⟩
end
end DL
namespace DL
open PySem PySem.Spec L2
open PyProof.Rows hiding St

abbrev RCD := List DV → Mem → DQ → Prop
def rDC (K : PySem.W.Frag) (rd : RCD) : List V → Hp → VK → Prop := fun xs H Q => ∃ ds M Qd, RelM K H M ∧ RepL K H M xs ds ∧ rd ds M Qd ∧ EndD K H M Qd Q
def wCB (rd : RCD) (wr : WA) : WE := fun δ M Q => wr δ M fun ds M1 => rd ds M1 Q
abbrev CallD (X : Cx) (f : Value) (rd : RCD) : Prop := CallR X f (rDC X.K rd)
section
variable {X : Cx} {x : Str} {p pos : Pos} {e : Expr} {es : List Expr} {wr : WA} {we : WE} {id T : String} {rd : RCD}
theorem callR_imp {f : Value} {r r' : List V → Hp → VK → Prop} (h : CallR X f r) (i : ∀ xs H Q, r' xs H Q → r xs H Q) : CallR X f r' := fun pins s σ H xs us Q I rs q => h pins s σ H xs us Q I rs (i _ _ _ q)
theorem liftCB {K : PySem.W.Frag} {σ : St} {H : Hp} {Q : VK} (h : lift K (wCB rd wr) σ H Q) : tCB (rDC K rd) (liftA K wr) σ H Q := by
  obtain ⟨δ, M, Qd, S, R, h, E⟩ := h
  exact ⟨δ, M, _, S, R, h, fun ds M1 vs H1 k1 R1 r1 h1 => ⟨ds, M1, Qd, R1, r1, h1, E.step k1⟩⟩
theorem de_callB (hc : CallD X (.builtin id) rd) (hg : Gl X x) (hm : X.mg x = none) (hv : bootBuiltins x = some (.builtin id)) (ha : DA X (e :: es) wr) (hn : x ≠ "__name__" := by decide) (hdb : (x == ("__debug__" : Str)) = false := by decide)
    (he : starEach (e :: es) X.env = (false, eval e X.env) :: starEach es X.env := by rfl) (hpl : (backTo pos (starEach es X.env)).any (·.1) = false := by rfl) : DE X (.Call (.Name x p) (e :: es) [] pos) (wCB rd wr) :=
  pe_imp (pe_callB hc hg hm hv ha hn hdb he hpl) fun _ _ _ h => liftCB h
theorem de_callTy (hc : CallD X (.type T) rd) (hg : Gl X x) (hm : X.mg x = none) (hv : bootBuiltins x = some (.type T)) (ha : DA X (e :: es) wr) (hn : x ≠ "__name__" := by decide) (hdb : (x == ("__debug__" : Str)) = false := by decide)
    (he : starEach (e :: es) X.env = (false, eval e X.env) :: starEach es X.env := by rfl) (hpl : (backTo pos (starEach es X.env)).any (·.1) = false := by rfl) : DE X (.Call (.Name x p) (e :: es) [] pos) (wCB rd wr) :=
  pe_imp (pe_callTy hc hg hm hv ha hn hdb he hpl) fun _ _ _ h => liftCB h
def lenD : List DV → Mem → DQ → Prop
  | [.d (.str z)], M, Q => z.length ≤ sizeLine ∧ Q (.d (.int z.length)) M
  | [.d (.tuple xs)], M, Q => Q (.d (.int xs.length)) M
  | [.d (.list xs)], M, Q => Q (.d (.int xs.length)) M
  | [.r a], M, Q => optD (M a) fun o => Q (.d (.int (moL o).length)) M
  | _, M, Q => False
theorem one_inv {K : PySem.W.Frag} {H : Hp} {M : Mem} {xs : List V} {d : DV} (r : RepL K H M xs [d]) : ∃ v, xs = [v] ∧ Rep K H M v d := by
  cases r with
  | cons a b => cases b; exact ⟨_, rfl, a⟩
theorem two_inv {K : PySem.W.Frag} {H : Hp} {M : Mem} {xs : List V} {d e : DV} (r : RepL K H M xs [d, e]) : ∃ v u, xs = [v, u] ∧ Rep K H M v d ∧ Rep K H M u e := by
  cases r with
  | cons a b =>
    obtain ⟨u, rfl, c⟩ := one_inv b
    exact ⟨_, _, rfl, a, c⟩
theorem cd_len : CallD X (.builtin "len") lenD :=
  callR_imp call_len fun xs H Q ⟨ds, M, Qd, R, r, h, E⟩ => by
    have fin : ∀ (n : Nat), Qd (.d (.int n)) M → Q (.int n) H := fun n q => E (.d _) _ _ _ (Keep.refl _ _) R (.int _) q
    unfold lenD at h
    split at h
    · obtain ⟨v, rfl, rv⟩ := one_inv r
      have := RepP.str_inv rv
      subst this
      exact ⟨_, _, rfl, ⟨h.1, rfl⟩, fin _ h.2⟩
    · rename_i zs
      obtain ⟨v, rfl, rv⟩ := one_inv r
      obtain ⟨a, vs, e1, s1, ra⟩ := RepP.tup_inv rv
      subst e1
      exact ⟨_, zs.length, rfl, .inr ⟨_, s1, by rw [ra.length]⟩, fin _ h⟩
    · rename_i zs
      obtain ⟨v, rfl, rv⟩ := one_inv r
      obtain ⟨a, vs, e1, s1, _, ra⟩ := RepP.lst_inv rv
      subst e1
      exact ⟨_, zs.length, rfl, .inl ⟨_, SqL.of s1, by rw [ra.length]⟩, fin _ h⟩
    · rename_i a
      obtain ⟨v, rfl, rv⟩ := one_inv r
      have rv : v = .ref a := rv
      subst rv
      obtain ⟨o, hm, h⟩ := optD_inv h
      cases o with
      | lst zs =>
        obtain ⟨vs, hv, rl⟩ := R a _ hm
        exact ⟨_, zs.length, rfl, .inl ⟨_, SqL.of hv, by rw [Paired.length rl]⟩, fin _ h⟩
      | tup zs =>
        obtain ⟨vs, hv, rl⟩ := R a _ hm
        exact ⟨_, zs.length, rfl, .inr ⟨_, SqT.of hv, by rw [Paired.length rl]⟩, fin _ h⟩
    · exact h.elim
def allB : List PyData → Option (List Bool)
  | [] => some []
  | .bool b :: r => (allB r).map (b :: ·)
  | _ :: _ => none
theorem allB_eq : ∀ {xs : List PyData} {bs : List Bool}, allB xs = some bs → xs = bs.map PyData.bool
  | [], _, h => by cases h; rfl
  | .bool b :: r, _, h => by
    unfold allB at h
    obtain ⟨l, e, rfl⟩ := Option.map_eq_some_iff.mp h
    rw [allB_eq e]
    rfl
  | .none :: _, _, h => by cases h
  | .int _ :: _, _, h => by cases h
  | .str _ :: _, _, h => by cases h
  | .list _ :: _, _, h => by cases h
  | .tuple _ :: _, _, h => by cases h
  | .dict _ :: _, _, h => by cases h
theorem allB_map : ∀ bs : List Bool, allB (bs.map PyData.bool) = some bs
  | [] => rfl
  | b :: bs => by show (allB (bs.map PyData.bool)).map (b :: ·) = _; rw [allB_map bs]; rfl
theorem RepA.bools {K : PySem.W.Frag} {H : Hp} {M : Mem} : ∀ {bs : List Bool} {vs : List V}, RepA K H M vs (bs.map PyData.bool) → vs = bs.map V.bl
  | [], _, h => by cases h; rfl
  | b :: bs, _, h => by
    cases h with
    | cons h1 h2 => rw [RepP.bl_inv h1, h2.bools]; rfl
def allQ (f : List Bool → Bool) : List DV → Mem → DQ → Prop
  | [.d (.list xs)], M, Q => optD (allB xs) fun bs => Q (.d (.bool (f bs))) M
  | _, M, Q => False
theorem cd_all (hc : X.calm = true) : CallD X (.builtin "all") (allQ fun bs => bs.all fun b => b) :=
  callR_imp (cr_all hc) fun xs H Q ⟨ds, M, Qd, R, r, h, E⟩ => by
    unfold allQ at h
    split at h
    · obtain ⟨v, rfl, rv⟩ := one_inv r
      obtain ⟨a, vs, e1, s1, _, ra⟩ := RepP.lst_inv rv
      subst e1
      obtain ⟨bs, e, h⟩ := optD_inv h
      rw [allB_eq e] at ra
      have := ra.bools
      subst this
      exact ⟨_, bs, rfl, SqL.of s1, E (.d _) _ _ _ (Keep.refl _ _) R (.bl _) h⟩
    · exact h.elim
theorem cd_any (hc : X.calm = true) : CallD X (.builtin "any") (allQ fun bs => bs.any fun b => b) :=
  callR_imp (cr_any hc) fun xs H Q ⟨ds, M, Qd, R, r, h, E⟩ => by
    unfold allQ at h
    split at h
    · obtain ⟨v, rfl, rv⟩ := one_inv r
      obtain ⟨a, vs, e1, s1, _, ra⟩ := RepP.lst_inv rv
      subst e1
      obtain ⟨bs, e, h⟩ := optD_inv h
      rw [allB_eq e] at ra
      have := ra.bools
      subst this
      exact ⟨_, bs, rfl, SqL.of s1, E (.d _) _ _ _ (Keep.refl _ _) R (.bl _) h⟩
    · exact h.elim
def listD : List DV → Mem → DQ → Prop
  | [.d (.list xs)], M, Q => Q (.d (.list xs)) M
  | [.d (.tuple xs)], M, Q => Q (.d (.list xs)) M
  | [.r a], M, Q => optD (lstMD M a) fun xs => Q (.d (.list xs)) M
  | _, M, Q => False
def tupleD : List DV → Mem → DQ → Prop
  | [.d (.list xs)], M, Q => Q (.d (.tuple xs)) M
  | [.d (.tuple xs)], M, Q => Q (.d (.tuple xs)) M
  | [.r a], M, Q => optD (lstMD M a) fun ys => Q (.d (.tuple ys)) M
  | _, M, Q => False
def listM : List DV → Mem → DQ → Prop
  | [.d (.list xs)], M, Q => ∀ p, M p = none → Q (.r p) (mupd M p (.lst (xs.map .d)))
  | [.d (.tuple xs)], M, Q => ∀ p, M p = none → Q (.r p) (mupd M p (.lst (xs.map .d)))
  | [.r a], M, Q => optD (lstMD M a) fun xs => ∀ p, M p = none → Q (.r p) (mupd M p (.lst (xs.map .d)))
  | _, M, Q => False
theorem cd_list : CallD X (.type "list") listD :=
  callR_imp call_list_of fun xs H Q ⟨ds, M, Qd, R, r, h, E⟩ => by
    unfold listD at h
    split at h
    · obtain ⟨v, rfl, rv⟩ := one_inv r
      obtain ⟨a, vs, e1, s1, _, ra⟩ := RepP.lst_inv rv
      subst e1
      exact ⟨_, vs, rfl, .inl (SqL.of s1), fun p hp => E.lst R ra hp h⟩
    · obtain ⟨v, rfl, rv⟩ := one_inv r
      obtain ⟨a, vs, e1, s1, ra⟩ := RepP.tup_inv rv
      subst e1
      exact ⟨_, vs, rfl, .inr s1, fun p hp => E.lst R ra hp h⟩
    · rename_i a
      obtain ⟨v, rfl, rv⟩ := one_inv r
      have rv : v = .ref a := rv
      subst rv
      obtain ⟨xs, e, h⟩ := optD_inv h
      obtain ⟨vs, hv, ra⟩ := lstMD_inv R e
      exact ⟨_, vs, rfl, .inl (SqL.of hv), fun p hp => E.lst R ra hp h⟩
    · exact h.elim
theorem EndD.lstM {K : PySem.W.Frag} {H : Hp} {M : Mem} {Qd : DQ} {Q : VK} {xs : List V} {ds : List DV} {p : Addr} (E : EndD K H M Qd Q) (R : RelM K H M) (r : RepL K H M xs ds) (hp : H p = none) (q : Qd (.r p) (mupd M p (.lst ds))) : Q (.ref p) (upd H p (.lst xs)) :=
  E (.r p) _ _ _ (Keep.newM R hp) (R.newM (m := .lst ds) hp ⟨xs, upd_same, r.keep (Keep.newM R hp)⟩) rfl q
theorem cd_listM : CallD X (.type "list") listM :=
  callR_imp call_list_of fun xs H Q ⟨ds, M, Qd, R, r, h, E⟩ => by
    unfold listM at h
    split at h
    · obtain ⟨v, rfl, rv⟩ := one_inv r
      obtain ⟨a, vs, e1, s1, _, ra⟩ := RepP.lst_inv rv
      subst e1
      exact ⟨_, vs, rfl, .inl (SqL.of s1), fun p hp => E.lstM R ra.toL hp (h p (R.no hp))⟩
    · obtain ⟨v, rfl, rv⟩ := one_inv r
      obtain ⟨a, vs, e1, s1, ra⟩ := RepP.tup_inv rv
      subst e1
      exact ⟨_, vs, rfl, .inr s1, fun p hp => E.lstM R ra.toL hp (h p (R.no hp))⟩
    · rename_i a
      obtain ⟨v, rfl, rv⟩ := one_inv r
      have rv : v = .ref a := rv
      subst rv
      obtain ⟨xs, e, h⟩ := optD_inv h
      obtain ⟨vs, hv, ra⟩ := lstMD_inv R e
      exact ⟨_, vs, rfl, .inl (SqL.of hv), fun p hp => E.lstM R ra.toL hp (h p (R.no hp))⟩
    · exact h.elim
theorem cd_tuple : CallD X (.type "tuple") tupleD :=
  callR_imp call_tuple_of fun xs H Q ⟨ds, M, Qd, R, r, h, E⟩ => by
    unfold tupleD at h
    split at h
    · obtain ⟨v, rfl, rv⟩ := one_inv r
      obtain ⟨a, vs, e1, s1, _, ra⟩ := RepP.lst_inv rv
      subst e1
      exact ⟨_, vs, rfl, .inl ⟨SqL.of s1, fun p hp => E.tup R ra hp h⟩⟩
    · obtain ⟨v, rfl, rv⟩ := one_inv r
      have rv : RepP _ _ _ _ _ := rv
      obtain ⟨a, vs, e1, s1, ra⟩ := RepP.tup_inv rv
      subst e1
      exact ⟨_, vs, rfl, .inr ⟨s1, E (.d _) _ _ _ (Keep.refl _ _) R rv h⟩⟩
    · rename_i a
      obtain ⟨v, rfl, rv⟩ := one_inv r
      have rv : v = .ref a := rv
      subst rv
      obtain ⟨ys, e, h⟩ := optD_inv h
      obtain ⟨vs, hv, ra⟩ := lstMD_inv R e
      exact ⟨_, vs, rfl, .inl ⟨SqL.of hv, fun p hp => E.tup R ra hp h⟩⟩
    · exact h.elim
def intD : List DV → Mem → DQ → Prop
  | [.d (.int i)], M, Q => Q (.d (.int i)) M
  | _, M, Q => False
theorem cd_int : CallD X (.type "int") intD :=
  callR_imp call_int1 fun xs H Q ⟨ds, M, Qd, R, r, h, E⟩ => by
    unfold intD at h
    split at h
    · obtain ⟨v, rfl, rv⟩ := one_inv r
      have := RepP.int_inv rv
      subst this
      exact .inl ⟨_, rfl, E (.d _) _ _ _ (Keep.refl _ _) R (.int _) h⟩
    · exact h.elim
def tyName : PyData → String
  | .none => "NoneType"
  | .bool _ => "bool"
  | .int _ => "int"
  | .str _ => "str"
  | .list _ => "list"
  | .tuple _ => "tuple"
  | .dict _ => "dict"
inductive Ty where
  | int | bool | str | list | tuple | dict
def Ty.name : Ty → String
  | .int => "int"
  | .bool => "bool"
  | .str => "str"
  | .list => "list"
  | .tuple => "tuple"
  | .dict => "dict"
def isTy : Ty → PyData → Bool
  | .int, .int _ => true
  | .int, .bool _ => true
  | .bool, .bool _ => true
  | .str, .str _ => true
  | .list, .list _ => true
  | .tuple, .tuple _ => true
  | .dict, .dict _ => true
  | _, _ => false
theorem kitB_ty (t : Ty) (d : PyData) : kitB (tyName d) t.name = some (isTy t d) := by
  cases t <;> cases d <;> first | decide +kernel | rfl
theorem RepP.ty {K : PySem.W.Frag} {H : Hp} {M : Mem} {v : V} {d : PyData} (h : RepP K H M v d) : TyX K H v (.type (tyName d)) := by
  cases h with
  | non => exact .base .non
  | bl b => exact .base (.bl b)
  | int i => exact .base (.int i)
  | str x => exact .base (.str x)
  | lst e n r => exact .base (.lst e)
  | tup e n r => exact .base (.tup e)
  | ktp e r =>
    obtain ⟨o, its, n, h1, h2, _⟩ := e
    exact .kTuple h1 h2
  | dct0 e n => exact .base (.dK e)
def isTyM : Ty → MO → Bool
  | .list, .lst _ => true
  | .tuple, .tup _ => true
  | _, _ => false
def moName : MO → String
  | .lst _ => "list"
  | .tup _ => "tuple"
theorem kitB_mo (t : Ty) (m : MO) : kitB (moName m) t.name = some (isTyM t m) := by
  cases t <;> cases m <;> first | decide +kernel | rfl
theorem MOk.ty {K : PySem.W.Frag} {H : Hp} {M : Mem} {a : Addr} {m : MO} (h : MOk K H M a m) : TyX K H (.ref a) (.type (moName m)) := by
  cases m with
  | lst xs => obtain ⟨vs, e, _⟩ := h; exact .base (.lst e)
  | tup xs => obtain ⟨vs, e, _⟩ := h; exact .base (.tup e)
def isiK (f : DV → Mem → Option Bool) (we : WE) : WE := fun δ M Q => we δ M fun x M1 => match f x M1 with
  | some b => Q (.d (.bool b)) M1
  | none => False
def isOne (t : Ty) (x : DV) (M : Mem) : Option Bool := match x with
  | .d y => some (isTy t y)
  | .r a => (M a).map (isTyM t)
  | .s _ => none
def isTwo (t u : Ty) (x : DV) (M : Mem) : Option Bool := match x with
  | .d y => some (isTy t y || isTy u y)
  | .r a => (M a).map fun m => isTyM t m || isTyM u m
  | .s _ => none
theorem ty_of {K : PySem.W.Frag} {H : Hp} {M : Mem} {x : DV} {v : V} (R : RelM K H M) (r : Rep K H M v x) : ∀ (f : DV → Mem → Option Bool) (b : Bool), f x M = some b → (∀ a, f (.s a) M = none) → (∀ a, M a = none → f (.r a) M = none) →
    (∃ y, x = .d y ∧ TyX K H v (.type (tyName y))) ∨ ∃ a m, x = .r a ∧ M a = some m ∧ v = .ref a ∧ TyX K H v (.type (moName m)) := by
  intro f b h h1 h2
  cases x with
  | d y => exact .inl ⟨y, rfl, RepP.ty r⟩
  | r a =>
    cases hm : M a with
    | none => rw [h2 a hm] at h; cases h
    | some m =>
      have r : v = .ref a := r
      subst r
      exact .inr ⟨a, m, rfl, hm, rfl, (R a m hm).ty⟩
  | s ns => rw [h1 ns] at h; cases h
theorem de_isi {t : Ty} {a : Expr} {wa : WE} {tn : Str} {pt : Pos} (hg : Gl X "isinstance") (hm : X.mg "isinstance" = none) (hg2 : Gl X tn) (hm2 : X.mg tn = none) (hb : bootBuiltins tn = some (.type t.name)) (ha : DE X a wa)
    (hn : tn ≠ "__name__" := by decide) (hd : (tn == ("__debug__" : Str)) = false := by decide)
    (he : starEach (a :: [.Name tn pt]) X.env = (false, eval a X.env) :: starEach [.Name tn pt] X.env := by rfl) (hpl : (backTo pos (starEach [.Name tn pt] X.env)).any (·.1) = false := by rfl) :
    DE X (.Call (.Name "isinstance" p) [a, .Name tn pt] [] pos) (isiK (isOne t) wa) :=
  pe_imp (pe_callB call_isi hg hm (by decide +kernel) (pa_cons ha (pa_cons (pe_bltn hg2 hm2 hb (v := .ty t.name) rfl hn hd) pa_nil) he) (by decide) (by decide) he hpl) fun σ H Q ⟨δ, M, Qd, S, R, h, E⟩ =>
    ⟨δ, M, _, S, R, h, fun d M1 v H1 k1 R1 r1 h1 => by
      split at h1
      · rename_i b hb
        rcases ty_of R1 r1 (isOne t) b hb (fun _ => rfl) (fun a ha => by show (M1 a).map _ = none; rw [ha]; rfl) with ⟨y, rfl, ty⟩ | ⟨a, m, rfl, hm, rfl, ty⟩
        · cases hb
          exact ⟨v, .ty t.name, _, .type t.name, _, rfl, .ty _, ty, kit_ty (kitB_ty t y), E (.d _) _ _ _ k1 R1 (.bl _) h1⟩
        · have hb : (M1 a).map (isTyM t) = some b := hb
          rw [hm] at hb
          cases hb
          exact ⟨_, .ty t.name, _, .type t.name, _, rfl, .ty _, ty, kit_ty (kitB_mo t m), E (.d _) _ _ _ k1 R1 (.bl _) h1⟩
      · exact h1.elim⟩
theorem de_isi2 {t u : Ty} {a : Expr} {wa : WE} {tn un : Str} {pt pu ptup : Pos} {kx} (hg : Gl X "isinstance") (hm : X.mg "isinstance" = none) (hg2 : Gl X tn) (hm2 : X.mg tn = none) (hb : bootBuiltins tn = some (.type t.name))
    (hg3 : Gl X un) (hm3 : X.mg un = none) (hb3 : bootBuiltins un = some (.type u.name)) (ha : DE X a wa)
    (hn : tn ≠ "__name__" := by decide) (hd : (tn == ("__debug__" : Str)) = false := by decide) (hn3 : un ≠ "__name__" := by decide) (hd3 : (un == ("__debug__" : Str)) = false := by decide)
    (he : starEach (a :: [.Tuple [.Name tn pt, .Name un pu] kx ptup]) X.env = (false, eval a X.env) :: starEach [.Tuple [.Name tn pt, .Name un pu] kx ptup] X.env := by rfl) (hpl : (backTo pos (starEach [.Tuple [.Name tn pt, .Name un pu] kx ptup] X.env)).any (·.1) = false := by rfl) :
    DE X (.Call (.Name "isinstance" p) [a, .Tuple [.Name tn pt, .Name un pu] kx ptup] [] pos) (isiK (isTwo t u) wa) :=
  pe_imp (pe_callB call_isiT hg hm (by decide +kernel) (pa_cons ha (pa_cons (pe_tup (pa_cons (pe_bltn hg2 hm2 hb (v := .ty t.name) rfl hn hd) (pa_cons (pe_bltn hg3 hm3 hb3 (v := .ty u.name) rfl hn3 hd3) pa_nil))) pa_nil) he) (by decide) (by decide) he hpl) fun σ H Q ⟨δ, M, Qd, S, R, h, E⟩ =>
    ⟨δ, M, _, S, R, h, fun d M1 v H1 k1 R1 r1 h1 => by
      split at h1
      · rename_i b hb
        refine ⟨by show 2 ≤ sizeLine; decide, fun tp htp => ?_⟩
        have k2 : Keep H M (upd H1 tp (.tup [.ty t.name, .ty u.name])) M1 := k1.trans (Keep.new R1 htp)
        have R2 := R1.new (o := .tup [.ty t.name, .ty u.name]) htp
        have r2 := r1.keep (Keep.new R1 (o := .tup [.ty t.name, .ty u.name]) htp)
        have two : ∀ {n : String} {b1 b2 : Bool}, kitB n t.name = some b1 → kitB n u.name = some b2 → PySem.W.kitAny X.K (.type n) [.type t.name, .type u.name] = some (b1 || b2) := fun {n b1 b2} h1 h2 => by
          refine kitAny_cons (kit_ty h1) (fun z => ?_) (fun z => by rw [z]; rfl)
          subst z
          exact kitAny_cons (kit_ty h2) (fun z => by subst z; rfl) (fun z => by rw [z]; rfl)
        rcases ty_of R2 r2 (isTwo t u) b hb (fun _ => rfl) (fun a ha => by show (M1 a).map _ = none; rw [ha]; rfl) with ⟨y, rfl, ty⟩ | ⟨a, m, rfl, hm, rfl, ty⟩
        · cases hb
          exact ⟨v, tp, _, _, [.type t.name, .type u.name], _, rfl, upd_same, .cons (.ty _) (.cons (.ty _) .nil), ty, two (kitB_ty t y) (kitB_ty u y), E (.d _) _ _ _ k2 R2 (.bl _) h1⟩
        · have hb : (M1 a).map (fun m => isTyM t m || isTyM u m) = some b := hb
          rw [hm] at hb
          cases hb
          exact ⟨_, tp, _, _, [.type t.name, .type u.name], _, rfl, upd_same, .cons (.ty _) (.cons (.ty _) .nil), ty, two (kitB_mo t m) (kitB_mo u m), E (.d _) _ _ _ k2 R2 (.bl _) h1⟩
      · exact h1.elim⟩
end
end DL
namespace DL
open PySem PySem.Spec L2
open PyProof.Rows hiding St

section
variable {X : Cx} {st : Stmt} {rest : List Stmt} {t u : WS} {e : Expr} {we : WE} {pos : Pos}
def wNext : WS := fun E δ M => E.nx δ M
def wSeq (t u : WS) : WS := fun E δ M => t { E with nx := u E } δ M
theorem dss_nil : DSs X [] wNext := pss_imp pss_nil fun D σ H ⟨δ, M, E, S, R, h, e1, e2, e3, e4⟩ => e1 δ M σ H (Keep.refl _ _) R S h
theorem dss_cons (h1 : DS X st t) (h2 : DSs X rest u) : DSs X (st :: rest) (wSeq t u) :=
  pss_imp (pss_cons h1 h2) fun D σ H ⟨δ, M, E, S, R, h, e1, e2, e3, e4⟩ => ⟨δ, M, _, S, R, h,
    fun δ' M' σ' H' k R' S' q => ⟨δ', M', E, S', R', q, fun δ2 M2 σ2 H2 k2 => e1 δ2 M2 σ2 H2 (k.trans k2), fun d M2 v H2 k2 => e2 d M2 v H2 (k.trans k2), fun δ2 M2 σ2 H2 k2 => e3 δ2 M2 σ2 H2 (k.trans k2), fun δ2 M2 σ2 H2 k2 => e4 δ2 M2 σ2 H2 (k.trans k2)⟩, e2, e3, e4⟩
theorem dss_one (h1 : DS X st t) : DSs X [st] t := pss_one h1
def wBreak : WS := fun E δ M => E.bk δ M
def wCont : WS := fun E δ M => E.ct δ M
theorem ds_pass : DS X (.Pass pos) wNext := ps_imp ps_pass fun D σ H ⟨δ, M, E, S, R, h, e1, e2, e3, e4⟩ => e1 δ M σ H (Keep.refl _ _) R S h
theorem ds_break : DS X (.Break pos) wBreak := ps_imp ps_break fun D σ H ⟨δ, M, E, S, R, h, e1, e2, e3, e4⟩ => e3 δ M σ H (Keep.refl _ _) R S h
theorem ds_continue : DS X (.Continue pos) wCont := ps_imp ps_continue fun D σ H ⟨δ, M, E, S, R, h, e1, e2, e3, e4⟩ => e4 δ M σ H (Keep.refl _ _) R S h
def wDrop (we : WE) : WS := fun E δ M => we δ M fun _ M1 => E.nx δ M1
theorem ds_expr (he : DE X e we) (hs : swapsWith e none pos.line X.env = pure false := by rfl) : DS X (.Expr e pos) (wDrop we) :=
  ps_imp (ps_expr he hs) fun D σ H ⟨δ, M, E, S, R, h, e1, e2, e3, e4⟩ => ⟨δ, M, _, S, R, h, fun d M1 v H1 k1 R1 r1 h1 => e1 δ M1 σ H1 k1 R1 (S.keep k1) h1⟩
def wRet (we : WE) : WS := fun E δ M => we δ M E.rt
theorem ds_ret (he : DE X e we) : DS X (.Return (some e) pos) (wRet we) :=
  ps_imp (ps_ret he) fun D σ H ⟨δ, M, E, S, R, h, e1, e2, e3, e4⟩ => ⟨δ, M, _, S, R, h, e2⟩
def wRetN : WS := fun E _ M => E.rt (.d .none) M
theorem ds_retN : DS X (.Return none pos) wRetN := ps_imp ps_retN fun D σ H ⟨δ, M, E, S, R, h, e1, e2, e3, e4⟩ => e2 (.d .none) M .non H (Keep.refl _ _) R .non h
def wIfS (c : WT) (t u : WS) : WS := fun E δ M => c δ M fun b M1 => if b = true then t E δ M1 else u E δ M1
theorem ds_if {c : Expr} {a b : List Stmt} {tc : WT} (hc : DT X c tc) (ha : DSs X a t) (hb : DSs X b u) : DS X (.If c a b pos) (wIfS tc t u) :=
  ps_imp (ps_if hc ha hb) fun D σ H ⟨δ, M, E, S, R, h, e1, e2, e3, e4⟩ => ⟨δ, M, _, S, R, h, fun b M1 H1 k R1 h1 => by
    by_cases hb : b = true
    · rw [if_pos hb] at h1 ⊢
      exact ⟨δ, M1, E, S.keep k, R1, h1, fun δ2 M2 σ2 H2 k2 => e1 δ2 M2 σ2 H2 (k.trans k2), fun d M2 v H2 k2 => e2 d M2 v H2 (k.trans k2), fun δ2 M2 σ2 H2 k2 => e3 δ2 M2 σ2 H2 (k.trans k2), fun δ2 M2 σ2 H2 k2 => e4 δ2 M2 σ2 H2 (k.trans k2)⟩
    · rw [if_neg hb] at h1 ⊢
      exact ⟨δ, M1, E, S.keep k, R1, h1, fun δ2 M2 σ2 H2 k2 => e1 δ2 M2 σ2 H2 (k.trans k2), fun d M2 v H2 k2 => e2 d M2 v H2 (k.trans k2), fun δ2 M2 σ2 H2 k2 => e3 δ2 M2 σ2 H2 (k.trans k2), fun δ2 M2 σ2 H2 k2 => e4 δ2 M2 σ2 H2 (k.trans k2)⟩⟩
def wNever : WS := fun _ _ _ => False
theorem ds_never : DS X st wNever := ps_imp ps_never fun D σ H ⟨δ, M, E, S, R, h, _⟩ => h
theorem dss_never {sts : List Stmt} : DSs X sts wNever := pss_imp pss_never fun D σ H ⟨δ, M, E, S, R, h, _⟩ => h

abbrev WG := DV → SD → (SD → Prop) → Prop
def GSim (K : PySem.W.Frag) (g : TG) (gd : WG) (vs : List Nat) : Prop := ∀ (v : V) (σ : St) (H : Hp) (Q : St → Hp → Prop) (d : DV) (δ : SD) (M : Mem) (Qd : SD → Prop), Rep K H M v d → RepS K H M σ δ → RelM K H M → gd d δ Qd →
  (∀ σ' δ', RepS K H M σ' δ' → wipe σ' vs = wipe σ vs → Qd δ' → Q σ' H) → g v σ H Q
structure DG (X : Cx) (tg : Expr) (gd : WG) (vs : List Nat) : Prop where
  ex : ∃ g, PG X tg g ∧ GSim X.K g gd vs
def gNameD (i : Nat) : WG := fun d δ Q => Q (δ.set i (some d))
theorem wipe_set {σ : St} {i : Nat} {o : Option V} : ∀ {vs : List Nat}, i ∈ vs → wipe (σ.set i o) vs = wipe σ vs
  | [], h => by cases h
  | v :: vs, h => by
    unfold wipe
    by_cases e : i ∈ vs
    · rw [wipe_set e]
    · have e2 : i = v := by
        rcases List.mem_cons.mp h with z | z
        · exact z
        · exact absurd z e
      subst e2
      clear h
      have key : ∀ (ws : List Nat) (τ : St), i ∉ ws → wipe (τ.set i o) ws = (wipe τ ws).set i o := by
        intro ws
        induction ws with
        | nil => intro τ _; rfl
        | cons w ws ih =>
          intro τ hw
          unfold wipe
          simp only [List.mem_cons, not_or] at hw
          rw [ih τ hw.2, List.set_comm _ _ (fun z => hw.1 z)]
      rw [key vs σ e, List.set_set]
theorem gsim_name {K : PySem.W.Frag} {i : Nat} {vs : List Nat} (h : i ∈ vs) : GSim K (gName i) (gNameD i) vs := fun v σ H Q d δ M Qd r S R q E => E _ _ (S.set r i) (wipe_set h) q
theorem dg_name {i : Nat} {x : Str} {vs : List Nat} (hN : X.N.Nodup) (hi : X.N[i]? = some x) (hx : Loc X.env.scope x) (hv : i ∈ vs) (hf : X.fn x = true ∨ X.env.scope.names.lookup x = some .local := by first | exact .inl rfl | exact .inr rfl | assumption) : DG X (.Name x pos) (gNameD i) vs :=
  ⟨_, pg_name hN hi hx hf, gsim_name hv⟩
abbrev WGs := List DV → SD → (SD → Prop) → Prop
def GsSim (K : PySem.W.Frag) (g : TGs) (gd : WGs) (vs : List Nat) : Prop := ∀ (xs : List V) (σ : St) (H : Hp) (Q : St → Hp → Prop) (ds : List DV) (δ : SD) (M : Mem) (Qd : SD → Prop), RepL K H M xs ds → RepS K H M σ δ → RelM K H M → gd ds δ Qd →
  (∀ σ' δ', RepS K H M σ' δ' → wipe σ' vs = wipe σ vs → Qd δ' → Q σ' H) → g xs σ H Q
structure DGs (X : Cx) (tgs : List Expr) (gd : WGs) (vs : List Nat) : Prop where
  ex : ∃ g, PGs X tgs g ∧ GsSim X.K g gd vs
def gNilD : WGs := fun ds δ Q => ds = [] ∧ Q δ
def gConsD (g : WG) (gs : WGs) : WGs := fun ds δ Q => match ds with
  | d :: r => g d δ fun δ' => gs r δ' Q
  | [] => False
theorem dgs_nil {vs : List Nat} : DGs X [] gNilD vs := ⟨_, pgs_nil, fun xs σ H Q ds δ M Qd r S R q E => by
  obtain ⟨rfl, q⟩ := q
  cases r
  exact ⟨rfl, E _ _ S rfl q⟩⟩
theorem dgs_cons {e : Expr} {es : List Expr} {g : WG} {gs : WGs} {vs : List Nat} (h1 : DG X e g vs) (h2 : DGs X es gs vs) (hs : (assignEach (e :: es) X.env).map (·.2) = assign e X.env :: (assignEach es X.env).map (·.2) := by rfl) : DGs X (e :: es) (gConsD g gs) vs := by
  obtain ⟨⟨G, p, s⟩⟩ := h1
  obtain ⟨⟨Gs, ps, ss⟩⟩ := h2
  refine ⟨_, pgs_cons p ps hs, fun xs σ H Q ds δ M Qd r S R q E => ?_⟩
  cases r with
  | nil => exact q.elim
  | cons r1 r2 =>
    refine ⟨_, _, rfl, s _ σ H _ _ δ M _ r1 S R q fun σ' δ' S' w' q' => ?_⟩
    exact ss _ σ' H Q _ δ' M Qd r2 S' R q' fun σ2 δ2 S2 w2 q2 => E σ2 δ2 S2 (w2.trans w') q2
def gTupD (n : Nat) (gs : WGs) : WG := fun d δ Q => match d with
  | .d (.tuple xs) => xs.length = n ∧ gs (xs.map .d) δ Q
  | _ => False
theorem dg_tup {es : List Expr} {k : Nat} {gs : WGs} {n : Nat} {vs : List Nat} (hc : X.calm = true) (h : DGs X es gs vs)
    (hn : (assignEach es X.env).length = n := by rfl) (hst : (assignEach es X.env).findIdx? (·.1) = none := by rfl) : DG X (.Tuple es k pos) (gTupD n gs) vs := by
  obtain ⟨⟨G, p, s⟩⟩ := h
  refine ⟨_, pg_tup hc p hn hst, fun v σ H Q d δ M Qd r S R q E => ?_⟩
  unfold gTupD at q
  split at q
  · obtain ⟨a, vs', e1, s1, ra⟩ := RepP.tup_inv r
    exact ⟨a, vs', e1, s1, by rw [ra.length]; exact q.1, s _ σ H Q _ δ M Qd ra.toL S R q.2 E⟩
  · exact q.elim
def wAsg (we : WE) (g : WG) : WS := fun E δ M => we δ M fun x M1 => g x δ fun δ1 => E.nx δ1 M1
theorem ds_asg {tg : Expr} {g : WG} {vs : List Nat} (he : DE X e we) (hg : DG X tg g vs) (hs : swapsWithSole [tg] e pos.line X.env = pure false := by rfl) (hw : swappedStores [tg] e X.env = pure none := by rfl)
    (h1 : (assignEach [tg] X.env).map (·.2) = [assign tg X.env] := by rfl) : DS X (.Assign [tg] e pos) (wAsg we g) := by
  obtain ⟨⟨G, p, s⟩⟩ := hg
  exact ps_imp (ps_asg he p hs hw h1) fun D σ H ⟨δ, M, E, S, R, h, e1, e2, e3, e4⟩ => ⟨δ, M, _, S, R, h, fun d M1 v H1 k1 R1 r1 h1 => s v σ H1 _ d δ M1 _ r1 (S.keep k1) R1 h1 fun σ' δ' S' _ q => e1 δ' M1 σ' H1 k1 R1 S' q⟩
theorem ds_set {i : Nat} {x : Str} {pos' : Pos} (hN : X.N.Nodup) (hi : X.N[i]? = some x) (hx : Loc X.env.scope x) (he : DE X e we) (hs : swapsWith e (some (.Name x pos')) pos.line X.env = pure false := by rfl)
    (hf : X.fn x = true ∨ X.env.scope.names.lookup x = some .local := by first | exact .inl rfl | exact .inr rfl | assumption) : DS X (.Assign [.Name x pos'] e pos) (wAsg we (gNameD i)) :=
  ps_imp (ps_set hN hi hx he hs hf) fun D σ H ⟨δ, M, E, S, R, h, e1, e2, e3, e4⟩ => ⟨δ, M, _, S, R, h, fun d M1 v H1 k1 R1 r1 h1 => e1 _ M1 _ H1 k1 R1 ((S.keep k1).set r1 i) h1⟩
def wPar (i j : Nat) (wa : WA) : WS := fun E δ M => wa δ M fun ds M1 => match ds with
  | [d, e] => E.nx ((δ.set i (some d)).set j (some e)) M1
  | _ => False
theorem ds_par {i j : Nat} {x y : Str} {a b : Expr} {wa : WA} {px py pt : Pos} {kt k2 pt2} (hc : X.calm = true) (hN : X.N.Nodup) (hi : X.N[i]? = some x) (hj : X.N[j]? = some y) (hij : i ≠ j)
    (hx : X.env.scope.names.lookup x = some .local) (hy : X.env.scope.names.lookup y = some .local) (ha : DA X [a, b] wa)
    (hw : swappedStores [.Tuple [.Name x px, .Name y py] kt pt] (.Tuple [a, b] k2 pt2) X.env = pure (some [x, y]))
    (hs : swapsWithSole [.Tuple [.Name x px, .Name y py] kt pt] (.Tuple [a, b] k2 pt2) pos.line X.env = pure false := by rfl) :
    DS X (.Assign [.Tuple [.Name x px, .Name y py] kt pt] (.Tuple [a, b] k2 pt2) pos) (wPar i j wa) :=
  ps_imp (ps_par hc hN hi hj hij hx hy ha hw hs) fun D σ H ⟨δ, M, E, S, R, h, e1, e2, e3, e4⟩ => ⟨δ, M, _, S, R, h, fun ds M1 vs H1 k1 R1 r1 h1 => by
    split at h1
    · obtain ⟨v, u, rfl, rv, ru⟩ := two_inv r1
      exact ⟨v, u, rfl, e1 _ M1 _ H1 k1 R1 (((S.keep k1).set rv i).set ru j) h1⟩
    · exact h1.elim⟩
def wSetIx (wo wi wv : WE) : WS := fun E δ M => wv δ M fun y M1 => wo δ M1 fun o M2 => wi δ M2 fun i M3 => match o, i with
  | .r a, .d (.int k) => (match M3 a with
    | some (.lst xs) => optD (ixN xs.length k) fun j => E.nx δ (mupd M3 a (.lst (xs.set j y)))
    | _ => False)
  | _, _ => False
theorem RepL.set {K : PySem.W.Frag} {H : Hp} {M : Mem} {v : V} {d : DV} (r : Rep K H M v d) : ∀ {vs : List V} {ds : List DV} (i : Nat), RepL K H M vs ds → RepL K H M (vs.set i v) (ds.set i d)
  | _, _, _, .nil => .nil
  | _, _, 0, .cons _ t => .cons r t
  | _, _, i + 1, .cons q t => .cons q (RepL.set r i t)
theorem RepL.app {K : PySem.W.Frag} {H : Hp} {M : Mem} : ∀ {vs ws : List V} {ds es : List DV}, RepL K H M vs ds → RepL K H M ws es → RepL K H M (vs ++ ws) (ds ++ es)
  | _, _, _, _, .nil, h => h
  | _, _, _, _, .cons a b, h => .cons a (RepL.app b h)
theorem ds_setIx {o i : Expr} {wo wi : WE} {pos' : Pos} (he : DE X e we) (ho : DE X o wo) (hi : DE X i wi) (ha : ∀ v, assign (.Subscript o i pos') X.env v = (do
      let ov ← holding [v] (eval o X.env)
      let iv ← holding [v, ov] (eval i X.env)
      standAt pos'
      holding [v, ov, iv] (setItem ov iv v)
      release [v, ov, iv] []) := by intro _; rfl)
    (hs : swapsWithSole [.Subscript o i pos'] e pos.line X.env = pure false := by rfl) (hw : swappedStores [.Subscript o i pos'] e X.env = pure none := by rfl)
    (h1 : (assignEach [.Subscript o i pos'] X.env).map (·.2) = [assign (.Subscript o i pos') X.env] := by rfl) : DS X (.Assign [.Subscript o i pos'] e pos) (wSetIx wo wi we) :=
  ps_imp (ps_asg he (pg_sub ho hi set_list ha) hs hw h1) fun D σ H ⟨δ, M, E, S, R, h, e1, e2, e3, e4⟩ => ⟨δ, M, _, S, R, h, fun y M1 v H1 k1 R1 r1 h1 =>
    ⟨δ, M1, _, S.keep k1, R1, h1, fun ov M2 vo H2 k2 R2 r2 h2 => ⟨δ, M2, _, (S.keep k1).keep k2, R2, h2, fun iv M3 vi H3 k3 R3 r3 h3 => by
      split at h3
      · rename_i a k
        have r2' : vo = .ref a := r2
        split at h3
        · rename_i xs hm
          obtain ⟨vs, hv, rl⟩ := R3 a _ hm
          obtain ⟨j, hj, h3⟩ := optD_inv h3
          · refine ⟨a, vs, k, j, r2', RepP.int_inv r3, hv, by rw [Paired.length rl]; exact hj, ?_⟩
            have kk := Keep.put (H := H3) (o := .lst (vs.set j v)) (m' := .lst (xs.set j y)) hm
            refine e1 δ _ σ _ (((k1.trans k2).trans k3).trans kk) (R3.put hm ⟨_, upd_same, RepL.keep kk (RepL.set ((r1.keep k2).keep k3) j rl)⟩) ((((S.keep k1).keep k2).keep k3).keep kk) h3
        · exact h3.elim
      · exact h3.elim⟩⟩⟩
abbrev RMD := DV → List DV → Mem → DQ → Prop
def rDM (K : PySem.W.Frag) (rd : RMD) : V → List V → Hp → VK → Prop := fun x xs H Q => ∃ d ds M Qd, RelM K H M ∧ Rep K H M x d ∧ RepL K H M xs ds ∧ rd d ds M Qd ∧ EndD K H M Qd Q
def appD : DV → List DV → Mem → DQ → Prop
  | .r a, [d], M, Q => (match M a with
    | some (.lst xs) => xs.length < sizeLine ∧ Q (.d .none) (mupd M a (.lst (xs ++ [d])))
    | _ => False)
  | _, _, M, Q => False
def extD : DV → List DV → Mem → DQ → Prop
  | .r a, [.d (.list ys)], M, Q => (match M a with
    | some (.lst xs) => xs.length + ys.length ≤ sizeLine ∧ Q (.d .none) (mupd M a (.lst (xs ++ ys.map .d)))
    | _ => False)
  | _, _, M, Q => False
theorem mtR_imp {id : String} {r r' : V → List V → Hp → VK → Prop} (h : MtR X id r) (i : ∀ x xs H Q, r' x xs H Q → r x xs H Q) : MtR X id r' := fun pins s σ H x xs v us Q I rx rs q => h pins s σ H x xs v us Q I rx rs (i _ _ _ _ q)
theorem md_append : MtR X "list.append" (rDM X.K appD) :=
  mtR_imp mt_append fun x xs H Q ⟨d, ds, M, Qd, R, rx, rs, h, E⟩ => by
    unfold appD at h
    split at h
    · rename_i a y
      have rx : x = .ref a := rx
      obtain ⟨v, rfl, rv⟩ := one_inv rs
      split at h
      · rename_i zs hm
        obtain ⟨vs, hv, rl⟩ := R a _ hm
        have kk := Keep.put (H := H) (o := .lst (vs ++ [v])) (m' := .lst (zs ++ [y])) hm
        exact ⟨a, vs, v, rx, rfl, hv, by rw [Paired.length rl]; exact h.1, E (.d .none) _ _ _ kk (R.put hm ⟨_, upd_same, RepL.keep kk (RepL.app rl (.cons rv .nil))⟩) .non h.2⟩
      · exact h.elim
    · exact h.elim
theorem md_extend : MtR X "list.extend" (rDM X.K extD) :=
  mtR_imp mt_extend fun x xs H Q ⟨d, ds, M, Qd, R, rx, rs, h, E⟩ => by
    unfold extD at h
    split at h
    · rename_i a ys
      have rx : x = .ref a := rx
      obtain ⟨v, rfl, rv⟩ := one_inv rs
      obtain ⟨b, us, e1, s1, _, ra⟩ := RepP.lst_inv rv
      subst e1
      split at h
      · rename_i zs hm
        obtain ⟨vs, hv, rl⟩ := R a _ hm
        have kk := Keep.put (H := H) (o := .lst (vs ++ us)) (m' := .lst (zs ++ ys.map .d)) hm
        exact ⟨a, b, vs, us, rx, rfl, hv, s1, by rw [Paired.length rl, ra.length]; exact h.1, E (.d .none) _ _ _ kk (R.put hm ⟨_, upd_same, RepL.keep kk (RepL.app rl ra.toL)⟩) .non h.2⟩
      · exact h.elim
    · exact h.elim
def wMt (rd : RMD) (wo : WE) (wr : WA) : WE := fun δ M Q => wo δ M fun x M1 => wr δ M1 fun ds M2 => rd x ds M2 Q
def wMtL (rd : RMD) (wo : WE) (wr : WA) : WE := fun δ M Q => wo δ M fun x M1 => match x with
  | .r a => (match M1 a with
    | some (.lst _) => wr δ M1 fun ds M2 => rd (.r a) ds M2 Q
    | _ => False)
  | _ => False
theorem de_mtL {o : Expr} {es : List Expr} {wo : WE} {wr : WA} {name : Str} {apos cpos : Pos} {id : String} {rd : RMD} (pa : PlainAttrs "list") (slot : Slot "list" name id) (hty : typeOf (.builtin id) = pure (.type "method_descriptor")) (hm : MtR X id (rDM X.K rd)) (ho : DE X o wo) (ha : DA X (e :: es) wr)
    (hbase : attributeBase o name X.env (eval o X.env) = eval o X.env := by rfl)
    (hfew : ((backTo cpos (starEach (e :: es) X.env)).all (fun x => !x.1) && (backToKw cpos (keywordEach [] X.env)).all (fun x => x.1.isSome)
      && decide ((e :: es).length + ([] : List Keyword).length + (if ([] : List Keyword).isEmpty then 0 else 1) < 30)) = true := by rfl)
    (hline : (apos.endLine == cpos.line) = true := by rfl) (hs : starEach (e :: es) X.env = (false, eval e X.env) :: starEach es X.env := by rfl) (hplain : (backTo cpos (starEach es X.env)).any (·.1) = false := by rfl) :
    DE X (.Call (.Attribute o name apos) (e :: es) [] cpos) (wMtL rd wo wr) :=
  pe_imp (pe_bm pa slot hty hm ho ha hbase hfew hline hs hplain) fun σ H Q ⟨δ, M, Qd, S, R, h, E⟩ => ⟨δ, M, _, S, R, h, fun d M1 v H1 k1 R1 r1 h1 => by
    split at h1
    · rename_i a
      have r1' : v = .ref a := r1
      subst r1'
      split at h1
      · rename_i xs hm
        obtain ⟨vs, hv, rl⟩ := R1 a _ hm
        exact ⟨.inl ⟨rfl, vs, SqL.of hv⟩, δ, M1, _, S.keep k1, R1, h1, fun ds M2 us H2 k2 R2 r2 h2 => ⟨.r a, ds, M2, Qd, R2, rfl, r2, h2, E.step (k1.trans k2)⟩⟩
      · exact h1.elim
    · exact h1.elim⟩
end
end DL
namespace DL
open PySem PySem.Spec L2 RZ
open PyProof.Rows hiding St

abbrev WI := SD → Mem → (List DV → (Mem → Prop) → Mem → Prop) → Prop
structure ItD (K : PySem.W.Frag) (H0 : Hp) (M0 : Mem) (J : It) (items : List DV) (ok : Mem → Prop) : Prop where
  go : ∀ i H M, Keep H0 M0 H M → RelM K H M → ok M → i < items.length → J.go i H
  yld : ∀ i H M x H', Keep H0 M0 H M → RelM K H M → ok M → i < items.length → J.yld i H x H' → ∃ d, items[i]? = some d ∧ Keep H M H' M ∧ RelM K H' M ∧ Rep K H' M x d
  stop : ∀ H M, Keep H0 M0 H M → RelM K H M → ok M → J.stop items.length H
def liftI (K : PySem.W.Frag) (w : WI) : TI := fun σ H R => ∃ δ M Qd, RepS K H M σ δ ∧ RelM K H M ∧ w δ M Qd ∧ ∀ items ok M' H' J, Keep H M H' M' → RelM K H' M' → Qd items ok M' → ItD K H' M' J items ok → R J H'
abbrev DI (X : Cx) (tg iter : Expr) (w : WI) : Prop := PI X tg iter (liftI X.K w)
theorem pi_imp {X : Cx} {tg e : Expr} {t t' : TI} (h : PI X tg e t) (i : ∀ σ H R, t' σ H R → t σ H R) : PI X tg e t' := ⟨fun pins s σ H R I q => h.run pins s σ H R I (i σ H R q)⟩
def srcL (we : WE) : WI := fun δ M Q => we δ M fun x M1 => match x with
  | .d (.list xs) => Q (xs.map .d) (fun _ => True) M1
  | .r a => (match M1 a with
    | some (.lst xs) => Q xs (fun M' => M' a = some (.lst xs)) M1
    | _ => False)
  | _ => False
def srcT (we : WE) : WI := fun δ M Q => we δ M fun x M1 => match x with
  | .d (.tuple xs) => Q (xs.map .d) (fun _ => True) M1
  | _ => False
section
variable {K : PySem.W.Frag} {H : Hp} {M : Mem} {a : Addr}
theorem itd_lst {xs : List V} {ds : List PyData} (e : H a = some (.lst xs)) (n : M a = none) (r : RepA K H M xs ds) : ItD K H M (Itl K a) (ds.map .d) (fun _ => True) where
  go := fun i H' M' k R _ hi => by
    have hi' : i < xs.length := by rw [r.length]; simpa using hi
    exact ⟨xs, xs[i], SqL.of (k a n _ e).1, by simp [hi']⟩
  yld := fun i H' M' x H2 k R _ hi ⟨e1, y⟩ => by
    subst e1
    have hi' : i < ds.length := by simpa using hi
    obtain ⟨v, hv, rv⟩ := (RepA.keep k _ _ r).get (i := i) (d := ds[i]) (by simp [hi'])
    have := y xs (SqL.of (k a n _ e).1)
    rw [hv] at this
    cases this
    exact ⟨.d ds[i], by simp [hi'], Keep.refl _ _, R, rv⟩
  stop := fun H' M' k R _ => ⟨xs, SqL.of (k a n _ e).1, by rw [r.length]; simp⟩
theorem itd_mem {xs : List DV} (hm : M a = some (.lst xs)) : ItD K H M (Itl K a) xs (fun M' => M' a = some (.lst xs)) where
  go := fun i H' M' k R ok hi => by
    obtain ⟨vs, hv, rl⟩ := R a _ ok
    have hi' : i < vs.length := by rw [Paired.length rl]; exact hi
    exact ⟨vs, vs[i], SqL.of hv, by simp [hi']⟩
  yld := fun i H' M' x H2 k R ok hi ⟨e1, y⟩ => by
    subst e1
    obtain ⟨vs, hv, rl⟩ := R a _ ok
    obtain ⟨v, hv', rv⟩ := RepL.get (i := i) (d := xs[i]) rl (by simp [hi])
    have := y vs (SqL.of hv)
    rw [hv'] at this
    cases this
    exact ⟨xs[i], by simp [hi], Keep.refl _ _, R, rv⟩
  stop := fun H' M' k R ok => by
    obtain ⟨vs, hv, rl⟩ := R a _ ok
    exact ⟨vs, SqL.of hv, by rw [Paired.length rl]; exact Nat.le_refl _⟩
theorem itd_tup {v : V} {ds : List PyData} (h : RepP K H M v (.tuple ds)) : ∃ a, v = .ref a ∧ (∃ xs, SqT K H a xs) ∧ ItD K H M (Itt K a) (ds.map .d) (fun _ => True) := by
  have all : ∀ (a : Addr) (xs : List V) , (∀ H' M', Keep H M H' M' → SqT K H' a xs) → RepA K H M xs ds → ItD K H M (Itt K a) (ds.map .d) (fun _ => True) := fun a xs hs r =>
    { go := fun i H' M' k R _ hi => by
        have hi' : i < xs.length := by rw [r.length]; simpa using hi
        exact ⟨xs, xs[i], hs H' M' k, by simp [hi']⟩
      yld := fun i H' M' x H2 k R _ hi ⟨e1, y⟩ => by
        subst e1
        have hi' : i < ds.length := by simpa using hi
        obtain ⟨v, hv, rv⟩ := (RepA.keep k _ _ r).get (i := i) (d := ds[i]) (by simp [hi'])
        have := y xs (hs _ M' k)
        rw [hv] at this
        cases this
        exact ⟨.d ds[i], by simp [hi'], Keep.refl _ _, R, rv⟩
      stop := fun H' M' k R _ => ⟨xs, hs H' M' k, by rw [r.length]; simp⟩ }
  cases h with
  | tup e n r => exact ⟨_, rfl, ⟨_, SqT.of e⟩, all _ _ (fun _ _ k => SqT.of (k _ n _ e).1) r⟩
  | ktp e r => exact ⟨_, rfl, ⟨_, .inr e⟩, all _ _ (fun _ _ _ => .inr e) r⟩
end
section
variable {X : Cx} {tg l : Expr} {we : WE} {pos : Pos}
theorem di_list (hl : DE X l we) : DI X tg l (srcL we) :=
  pi_imp (pi_list hl) fun σ H R ⟨δ, M, Qd, S, Rm, h, E⟩ => ⟨δ, M, _, S, Rm, h, fun d M1 v H1 k1 R1 r1 h1 => by
    split at h1
    · obtain ⟨a, xs, e1, s1, n1, ra⟩ := RepP.lst_inv r1
      exact ⟨a, e1, ⟨xs, SqL.of s1⟩, E _ _ M1 H1 _ k1 R1 h1 (itd_lst s1 n1 ra)⟩
    · rename_i a
      have r1 : v = .ref a := r1
      split at h1
      · rename_i xs hm
        obtain ⟨vs, hv, rl⟩ := R1 a _ hm
        exact ⟨a, r1, ⟨vs, SqL.of hv⟩, E _ _ M1 H1 _ k1 R1 h1 (itd_mem hm)⟩
      · exact h1.elim
    · exact h1.elim⟩
theorem di_tup (hl : DE X l we) : DI X tg l (srcT we) :=
  pi_imp (pi_tup hl) fun σ H R ⟨δ, M, Qd, S, Rm, h, E⟩ => ⟨δ, M, _, S, Rm, h, fun d M1 v H1 k1 R1 r1 h1 => by
    split at h1
    · obtain ⟨a, e1, hs, it⟩ := itd_tup r1
      exact ⟨a, e1, hs, E _ _ M1 H1 _ k1 R1 h1 it⟩
    · exact h1.elim⟩
def rngD (lo : Int) (n : Nat) : List DV := (List.range n).map fun (i : Nat) => .d (.int (lo + (i : Int)))
theorem itd_rng {K : PySem.W.Frag} {H : Hp} {M : Mem} (lo : Int) (n : Nat) : ItD K H M (Itr lo n) (rngD lo n) (fun _ => True) where
  go := fun i H' M' k R _ hi => by
    have hi' : i < n := by simpa [rngD] using hi
    exact hi'
  yld := fun i H' M' x H2 k R _ hi ⟨e1, y⟩ => by
    subst e1 y
    have hi' : i < n := by simpa [rngD] using hi
    exact ⟨.d (.int (lo + i)), by simp [rngD, hi'], Keep.refl _ _, R, .int _⟩
  stop := fun H' M' k R _ => by show n ≤ _; simp [rngD]
def srcR1 (wa : WA) : WI := fun δ M Q => wa δ M fun ds M1 => match ds with
  | [.d (.int j)] => -(2 ^ 62) ≤ j ∧ j < 2 ^ 62 ∧ Q (rngD 0 j.toNat) (fun _ => True) M1
  | _ => False
def srcR2 (wa : WA) : WI := fun δ M Q => wa δ M fun ds M1 => match ds with
  | [.d (.int i), .d (.int j)] => (-(2 ^ 62) ≤ i ∧ i < 2 ^ 62 ∧ -(2 ^ 62) ≤ j ∧ j < 2 ^ 62) ∧ Q (rngD i (j - i).toNat) (fun _ => True) M1
  | _ => False
theorem di_range1 {a : Expr} {wa : WA} {p : Pos} (hg : Gl X "range") (hm : X.mg "range" = none) (ha : DA X [a] wa) (hs : starEach [a] X.env = [(false, eval a X.env)] := by rfl) : DI X tg (.Call (.Name "range" p) [a] [] pos) (srcR1 wa) :=
  pi_imp (pi_range1 hg hm ha hs) fun σ H R ⟨δ, M, Qd, S, Rm, h, E⟩ => ⟨δ, M, _, S, Rm, h, fun ds M1 vs H1 k1 R1 r1 h1 => by
    split at h1
    · obtain ⟨v, rfl, rv⟩ := one_inv r1
      have := RepP.int_inv rv
      subst this
      exact ⟨_, rfl, h1.1, h1.2.1, E _ _ M1 H1 _ k1 R1 h1.2.2 (itd_rng _ _)⟩
    · exact h1.elim⟩
theorem di_range2 {a b : Expr} {wa : WA} {p : Pos} (hg : Gl X "range") (hm : X.mg "range" = none) (ha : DA X [a, b] wa) (hs : starEach [a, b] X.env = [(false, eval a X.env), (false, eval b X.env)] := by rfl) (hs2 : starEach [b] X.env = [(false, eval b X.env)] := by rfl) : DI X tg (.Call (.Name "range" p) [a, b] [] pos) (srcR2 wa) :=
  pi_imp (pi_range2 hg hm ha hs hs2) fun σ H R ⟨δ, M, Qd, S, Rm, h, E⟩ => ⟨δ, M, _, S, Rm, h, fun ds M1 vs H1 k1 R1 r1 h1 => by
    split at h1
    · obtain ⟨v, u, rfl, rv, ru⟩ := two_inv r1
      have := RepP.int_inv rv
      subst this
      have := RepP.int_inv ru
      subst this
      exact ⟨_, _, rfl, h1.1, E _ _ M1 H1 _ k1 R1 h1.2 (itd_rng _ _)⟩
    · exact h1.elim⟩
def enumD (n : Nat) : List PyData → List DV
  | [] => []
  | x :: xs => .d (.tuple [.int n, x]) :: enumD (n + 1) xs
theorem enumD_get : ∀ (xs : List PyData) (n i : Nat), (enumD n xs)[i]? = (xs[i]?).map fun x => DV.d (.tuple [.int ((n + i : Nat) : Int), x])
  | [], n, i => by simp [enumD]
  | x :: xs, n, 0 => by simp [enumD]
  | x :: xs, n, i + 1 => by
    have := enumD_get xs (n + 1) i
    simp only [enumD, List.getElem?_cons_succ]
    rw [this]
    congr 1
    funext y
    congr 4
    omega
theorem enumD_length : ∀ (xs : List PyData) (n : Nat), (enumD n xs).length = xs.length
  | [], n => rfl
  | x :: xs, n => by simp [enumD, enumD_length xs (n + 1)]
theorem itd_enum {K : PySem.W.Frag} {H : Hp} {M : Mem} {a : Addr} {xs : List V} {ds : List PyData} (e : H a = some (.lst xs)) (n : M a = none) (r : RepA K H M xs ds) : ItD K H M (Ite K a) (enumD 0 ds) (fun _ => True) where
  go := fun i H' M' k R _ hi => by
    have hi' : i < xs.length := by rw [r.length]; simpa [enumD_length] using hi
    exact ⟨xs, xs[i], SqL.of (k a n _ e).1, by simp [hi']⟩
  yld := fun i H' M' x H2 k R _ hi ⟨T, y, e1, hT, e2, q⟩ => by
    subst e1 e2
    have hi' : i < ds.length := by simpa [enumD_length] using hi
    obtain ⟨v, hv, rv⟩ := (RepA.keep k _ _ r).get (i := i) (d := ds[i]) (by simp [hi'])
    have := q xs (SqL.of (k a n _ e).1)
    rw [hv] at this
    obtain rfl : v = y := Option.some.inj this
    refine ⟨.d (.tuple [.int ((0 + i : Nat) : Int), ds[i]]), by rw [enumD_get]; simp [hi'], Keep.new R hT, R.new hT, ?_⟩
    have kk := Keep.new R (o := .tup [.int (i : Nat), v]) hT
    refine RepP.tup upd_same (R.no hT) (.cons ?_ (.cons (RepP.keep kk _ _ rv) .nil))
    have z : ((0 + i : Nat) : Int) = (i : Int) := by omega
    rw [z]
    exact .int _
  stop := fun H' M' k R _ => ⟨xs, SqL.of (k a n _ e).1, by rw [r.length, enumD_length]; exact Nat.le_refl _⟩
def srcE (we : WA) : WI := fun δ M Q => we δ M fun ds M1 => match ds with
  | [.d (.list xs)] => Q (enumD 0 xs) (fun _ => True) M1
  | _ => False
theorem di_enum {e : Expr} {wa : WA} {p tpos : Pos} {elts : List Expr} {kk : Nat} (hg : Gl X "enumerate") (hm : X.mg "enumerate" = none) (ha : DA X [e] wa) (hs : starEach [e] X.env = [(false, eval e X.env)] := by rfl) :
    DI X (.Tuple elts kk tpos) (.Call (.Name "enumerate" p) [e] [] pos) (srcE wa) :=
  pi_imp (pi_enum hg hm ha hs) fun σ H R ⟨δ, M, Qd, S, Rm, h, E⟩ => ⟨δ, M, _, S, Rm, h, fun ds M1 vs H1 k1 R1 r1 h1 => by
    split at h1
    · obtain ⟨v, rfl, rv⟩ := one_inv r1
      obtain ⟨a, xs, e1, s1, n1, ra⟩ := RepP.lst_inv rv
      subst e1
      exact ⟨a, xs, rfl, SqL.of s1, E _ _ M1 H1 _ k1 R1 h1 (itd_enum s1 n1 ra)⟩
    · exact h1.elim⟩
def zipD : List PyData → List PyData → List DV
  | x :: xs, y :: ys => .d (.tuple [x, y]) :: zipD xs ys
  | _, _ => []
theorem zipD_get : ∀ (xs ys : List PyData) (i : Nat) (x y : PyData), xs[i]? = some x → ys[i]? = some y → (zipD xs ys)[i]? = some (.d (.tuple [x, y]))
  | [], _, i, x, y, h, _ => by simp at h
  | _ :: _, [], i, x, y, _, h => by simp at h
  | a :: xs, b :: ys, 0, x, y, h1, h2 => by
    simp at h1 h2
    subst h1 h2
    rfl
  | a :: xs, b :: ys, i + 1, x, y, h1, h2 => by
    simp only [List.getElem?_cons_succ] at h1 h2
    simp only [zipD, List.getElem?_cons_succ]
    exact zipD_get xs ys i x y h1 h2
theorem zipD_length : ∀ (xs ys : List PyData), (zipD xs ys).length = min xs.length ys.length
  | [], _ => by simp [zipD]
  | _ :: _, [] => by simp [zipD]
  | a :: xs, b :: ys => by simp [zipD, zipD_length xs ys]
theorem pair_rep {K : PySem.W.Frag} {H : Hp} {M : Mem} {T : Addr} {v u : V} {x y : PyData} (R : RelM K H M) (hT : H T = none) (rv : RepP K H M v x) (ru : RepP K H M u y) : RepP K (upd H T (.tup [v, u])) M (.ref T) (.tuple [x, y]) := by
  have kk := Keep.new R (o := .tup [v, u]) hT
  exact .tup upd_same (R.no hT) (.cons (RepP.keep kk _ _ rv) (.cons (RepP.keep kk _ _ ru) .nil))
theorem itd_zipL {K : PySem.W.Frag} {H : Hp} {M : Mem} {a b : Addr} {xs ys : List V} {ds es : List PyData} (e : H a = some (.lst xs)) (n : M a = none) (r : RepA K H M xs ds) (e' : H b = some (.lst ys)) (n' : M b = none) (r' : RepA K H M ys es) :
    ItD K H M (Itz K a b) (zipD ds es) (fun _ => True) where
  go := fun i H' M' k R _ hi => by
    rw [zipD_length] at hi
    have h1 : i < xs.length := by rw [r.length]; omega
    have h2 : i < ys.length := by rw [r'.length]; omega
    exact ⟨xs, ys, xs[i], ys[i], SqL.of (k a n _ e).1, SqL.of (k b n' _ e').1, by simp [h1], by simp [h2]⟩
  yld := fun i H' M' x H2 k R _ hi ⟨T, y, z, e1, hT, e2, q1, q2⟩ => by
    subst e1 e2
    rw [zipD_length] at hi
    have h1 : i < ds.length := by omega
    have h2 : i < es.length := by omega
    obtain ⟨v, hv, rv⟩ := (RepA.keep k _ _ r).get (i := i) (d := ds[i]) (by simp [h1])
    obtain ⟨u, hu, ru⟩ := (RepA.keep k _ _ r').get (i := i) (d := es[i]) (by simp [h2])
    have := q1 xs (SqL.of (k a n _ e).1)
    rw [hv] at this
    cases this
    have := q2 ys (SqL.of (k b n' _ e').1)
    rw [hu] at this
    cases this
    exact ⟨_, zipD_get ds es i _ _ (by simp [h1]) (by simp [h2]), Keep.new R hT, R.new hT, pair_rep R hT rv ru⟩
  stop := fun H' M' k R _ => ⟨xs, ys, SqL.of (k a n _ e).1, SqL.of (k b n' _ e').1, by rw [r.length, r'.length, zipD_length]; omega⟩
theorem RepP.tupK {K : PySem.W.Frag} {H : Hp} {M : Mem} {v : V} {ds : List PyData} (h : RepP K H M v (.tuple ds)) : ∃ a xs, v = .ref a ∧ (∀ H' M', Keep H M H' M' → SqT K H' a xs) ∧ RepA K H M xs ds := by
  cases h with
  | tup e n r => exact ⟨_, _, rfl, fun H' M' k => SqT.of (k _ n _ e).1, r⟩
  | ktp e r => exact ⟨_, _, rfl, fun H' M' k => .inr e, r⟩
theorem itd_zipT {K : PySem.W.Frag} {H : Hp} {M : Mem} {a b : Addr} {xs ys : List V} {ds es : List PyData} (e : ∀ H' M', Keep H M H' M' → SqT K H' a xs) (r : RepA K H M xs ds) (e' : ∀ H' M', Keep H M H' M' → SqT K H' b ys) (r' : RepA K H M ys es) :
    ItD K H M (ItzT K a b) (zipD ds es) (fun _ => True) where
  go := fun i H' M' k R _ hi => by
    rw [zipD_length] at hi
    have h1 : i < xs.length := by rw [r.length]; omega
    have h2 : i < ys.length := by rw [r'.length]; omega
    exact ⟨xs, ys, xs[i], ys[i], e _ _ k, e' _ _ k, by simp [h1], by simp [h2]⟩
  yld := fun i H' M' x H2 k R _ hi ⟨T, y, z, e1, hT, e2, q1, q2⟩ => by
    subst e1 e2
    rw [zipD_length] at hi
    have h1 : i < ds.length := by omega
    have h2 : i < es.length := by omega
    obtain ⟨v, hv, rv⟩ := (RepA.keep k _ _ r).get (i := i) (d := ds[i]) (by simp [h1])
    obtain ⟨u, hu, ru⟩ := (RepA.keep k _ _ r').get (i := i) (d := es[i]) (by simp [h2])
    have := q1 xs (e _ _ k)
    rw [hv] at this
    cases this
    have := q2 ys (e' _ _ k)
    rw [hu] at this
    cases this
    exact ⟨_, zipD_get ds es i _ _ (by simp [h1]) (by simp [h2]), Keep.new R hT, R.new hT, pair_rep R hT rv ru⟩
  stop := fun H' M' k R _ => ⟨xs, ys, e _ _ k, e' _ _ k, by rw [r.length, r'.length, zipD_length]; omega⟩
def srcZ (wa : WA) : WI := fun δ M Q => wa δ M fun ds M1 => match ds with
  | [.d (.list xs), .d (.list ys)] => Q (zipD xs ys) (fun _ => True) M1
  | [.d (.tuple xs), .d (.tuple ys)] => Q (zipD xs ys) (fun _ => True) M1
  | _ => False
theorem di_zip {e e2 : Expr} {wa : WA} {p tpos : Pos} {elts : List Expr} {kk : Nat} (hg : Gl X "zip") (hm : X.mg "zip" = none) (ha : DA X [e, e2] wa)
    (hs : starEach [e, e2] X.env = (false, eval e X.env) :: starEach [e2] X.env := by rfl) (hpl : (backTo pos (starEach [e2] X.env)).any (·.1) = false := by rfl) :
    DI X (.Tuple elts kk tpos) (.Call (.Name "zip" p) [e, e2] [] pos) (srcZ wa) :=
  pi_imp (pi_zipA hg hm ha hs hpl) fun σ H R ⟨δ, M, Qd, S, Rm, h, E⟩ => ⟨δ, M, _, S, Rm, h, fun ds M1 vs H1 k1 R1 r1 h1 => by
    split at h1
    · obtain ⟨v, u, rfl, rv, ru⟩ := two_inv r1
      obtain ⟨a, xs, e1, s1, n1, ra⟩ := RepP.lst_inv rv
      obtain ⟨b, ys, e2, s2, n2, rb⟩ := RepP.lst_inv ru
      subst e1 e2
      exact ⟨a, b, xs, ys, rfl, .inl ⟨SqL.of s1, SqL.of s2, E _ _ M1 H1 _ k1 R1 h1 (itd_zipL s1 n1 ra s2 n2 rb)⟩⟩
    · obtain ⟨v, u, rfl, rv, ru⟩ := two_inv r1
      obtain ⟨a, xs, e1, s1, ra⟩ := RepP.tupK rv
      obtain ⟨b, ys, e2, s2, rb⟩ := RepP.tupK ru
      subst e1 e2
      exact ⟨a, b, xs, ys, rfl, .inr ⟨s1 _ _ (Keep.refl _ _), s2 _ _ (Keep.refl _ _), E _ _ M1 H1 _ k1 R1 h1 (itd_zipT s1 ra s2 rb)⟩⟩
    · exact h1.elim⟩

def loopD (ok : Mem → Prop) (g : WG) (tb : WS) (E : DEnds) : List DV → SD → Mem → Prop
  | [], δ, M => ok M ∧ E.nx δ M
  | x :: xs, δ, M => ok M ∧ g x δ fun δ1 => tb { E with nx := loopD ok g tb E xs, ct := loopD ok g tb E xs, bk := E.nx } δ1 M
def wFor (ws : WI) (g : WG) (tb : WS) : WS := fun E δ M => ws δ M fun items ok M1 => loopD ok g tb E items δ M1
theorem drop_get {α : Type} {xs : List α} {i : Nat} {x : α} (h : xs[i]? = some x) : xs.drop i = x :: xs.drop (i + 1) := by
  obtain ⟨hl, e⟩ := List.getElem?_eq_some_iff.mp h
  rw [List.drop_eq_getElem_cons hl, e]
theorem ds_for {iter : Expr} {body : List Stmt} {ws : WI} {g : WG} {tb : WS} {vs : List Nat} (hp : PassesOwn (model X.prog X.w) X.A X.env X.xe) (hc : X.calm = true) (hi : DI X tg iter ws) (hg : DG X tg g vs) (hb : DSs X body tb)
    (hs : ∀ x, foldedSetIterable iter X.env x = pure x := by intro _; rfl) : DS X (.For tg iter body [] pos) (wFor ws g tb) := by
  obtain ⟨⟨G, pg, sim⟩⟩ := hg
  refine ps_imp (ps_for hp hc hi pg hb hs) fun D σ H ⟨δ, M, E, S, R, h, e1, e2, e3, e4⟩ => ⟨δ, M, _, S, R, h, fun items ok M1 H1 J k1 R1 h1 it => ?_⟩
  refine ⟨fun i m σ' H' => ∃ δ' M', m = items.length - i ∧ i ≤ items.length ∧ Keep H1 M1 H' M' ∧ RelM X.K H' M' ∧ RepS X.K H' M' σ' δ' ∧ loopD ok g tb E (items.drop i) δ' M',
    ⟨items.length, δ, M1, by simp, Nat.zero_le _, Keep.refl _ _, R1, S.keep k1, by simpa using h1⟩, ?_⟩
  rintro i m σ' H' ⟨δ', M', rfl, hi, k, R', S', hw⟩
  by_cases hlt : i < items.length
  · have hget : items[i]? = some items[i] := by simp [hlt]
    rw [drop_get hget] at hw
    obtain ⟨hok, hw⟩ := hw
    refine .inr ⟨it.go i H' M' k R' hok hlt, fun σ2 H2 => ∃ δ2 M2, Keep H1 M1 H2 M2 ∧ RelM X.K H2 M2 ∧ RepS X.K H2 M2 σ2 δ2 ∧ loopD ok g tb E (items.drop (i + 1)) δ2 M2,
      fun σ2 H2 ⟨δ2, M2, a, b, c, d⟩ => ⟨items.length - (i + 1), by omega, δ2, M2, rfl, hlt, a, b, c, d⟩, fun x H2 y => ?_⟩
    obtain ⟨d, hd, k2, R2, rx⟩ := it.yld i H' M' x H2 k R' hok hlt y
    rw [hget] at hd
    cases hd
    refine sim x σ' H2 _ _ δ' M' _ rx (S'.keep k2) R2 hw fun σ3 δ3 S3 _ q => ?_
    have kk := k1.trans (k.trans k2)
    refine ⟨δ3, M', _, S3, R2, q, fun δ4 M4 σ4 H4 k4 R4 S4 q4 => ⟨δ4, M4, (k.trans k2).trans k4, R4, S4, q4⟩, fun d M4 v H4 k4 R4 r4 q4 => e2 d M4 v H4 (kk.trans k4) R4 r4 q4,
      fun δ4 M4 σ4 H4 k4 R4 S4 q4 => e1 δ4 M4 σ4 H4 (kk.trans k4) R4 S4 q4, fun δ4 M4 σ4 H4 k4 R4 S4 q4 => ⟨δ4, M4, (k.trans k2).trans k4, R4, S4, q4⟩⟩
  · have e : i = items.length := by omega
    subst e
    rw [List.drop_length] at hw
    exact .inl ⟨it.stop H' M' k R' hw.1, e1 δ' M' σ' H' (k1.trans k) R' S' hw.2⟩
def wWhile (c : WT) (tb : WS) : WS := fun E δ M => ∃ W : Nat → SD → Mem → Prop, (∃ m, W m δ M) ∧ ∀ m δ M, W m δ M →
  c δ M fun b M1 => if b = true then tb { E with nx := fun δ' M' => ∃ m', m' < m ∧ W m' δ' M', ct := fun δ' M' => ∃ m', m' < m ∧ W m' δ' M', bk := E.nx } δ M1 else E.nx δ M1
theorem ds_while {c : Expr} {body : List Stmt} {tc : WT} {tb : WS} (hp : PassesOwn (model X.prog X.w) X.A X.env X.xe) (hc : DT X c tc) (hb : DSs X body tb) : DS X (.While c body [] pos) (wWhile tc tb) := by
  refine ps_imp (ps_while hp hc hb) fun D σ H ⟨δ, M, E, S, R, ⟨W, ⟨m0, w0⟩, turn⟩, e1, e2, e3, e4⟩ => ?_
  refine ⟨fun m σ' H' => ∃ δ' M', Keep H M H' M' ∧ RelM X.K H' M' ∧ RepS X.K H' M' σ' δ' ∧ W m δ' M', ⟨m0, δ, M, Keep.refl _ _, R, S, w0⟩, ?_⟩
  rintro m σ' H' ⟨δ', M', k, R', S', w⟩
  refine ⟨δ', M', _, S', R', turn m δ' M' w, fun b M1 H1 k1 R1 h1 => ?_⟩
  by_cases hb : b = true
  · rw [if_pos hb] at h1 ⊢
    refine ⟨fun σ2 H2 => ∃ δ2 M2, Keep H M H2 M2 ∧ RelM X.K H2 M2 ∧ RepS X.K H2 M2 σ2 δ2 ∧ ∃ m', m' < m ∧ W m' δ2 M2, fun σ2 H2 ⟨δ2, M2, a, b, c, m', hm, w'⟩ => ⟨m', hm, δ2, M2, a, b, c, w'⟩, ?_⟩
    have kk := k.trans k1
    exact ⟨δ', M1, _, S'.keep k1, R1, h1, fun δ4 M4 σ4 H4 k4 R4 S4 q4 => ⟨δ4, M4, kk.trans k4, R4, S4, q4⟩, fun d M4 v H4 k4 R4 r4 q4 => e2 d M4 v H4 (kk.trans k4) R4 r4 q4,
      fun δ4 M4 σ4 H4 k4 R4 S4 q4 => e1 δ4 M4 σ4 H4 (kk.trans k4) R4 S4 q4, fun δ4 M4 σ4 H4 k4 R4 S4 q4 => ⟨δ4, M4, kk.trans k4, R4, S4, q4⟩⟩
  · rw [if_neg hb] at h1 ⊢
    exact e1 δ' M1 σ' H1 (k.trans k1) R1 (S'.keep k1) h1
end
end DL
namespace DL
open PySem PySem.Spec L2
open PyProof.Rows hiding St

def mdel (M : Mem) (a : Addr) : Mem := fun b => if b = a then none else M b
theorem mdel_same {M : Mem} {a : Addr} : mdel M a a = none := by unfold mdel; rw [if_pos rfl]
theorem mdel_ne {M : Mem} {a b : Addr} (h : b ≠ a) : mdel M a b = M b := by unfold mdel; rw [if_neg h]
theorem mdel_mupd {M : Mem} {a : Addr} {o : MO} (h : M a = none) : mdel (mupd M a o) a = M := by
  funext b
  by_cases e : b = a
  · subst e; rw [mdel_same, h]
  · rw [mdel_ne e, mupd_ne e]
theorem mupd_mdel {M : Mem} {a : Addr} {o : MO} : mupd (mdel M a) a o = mupd M a o := by
  funext b
  by_cases e : b = a
  · subst e; rw [mupd_same, mupd_same]
  · rw [mupd_ne e, mdel_ne e, mupd_ne e]
theorem mdel_mupd_ne {M : Mem} {a b : Addr} {o : MO} (h : b ≠ a) : mdel (mupd M b o) a = mupd (mdel M a) b o := by
  funext c
  by_cases e : c = a
  · subst e; rw [mdel_same, mupd_ne (Ne.symm h), mdel_same]
  · rw [mdel_ne e]
    by_cases e2 : c = b
    · subst e2; rw [mupd_same, mupd_same]
    · rw [mupd_ne e2, mupd_ne e2, mdel_ne e]
def wipeD (δ : SD) : List Nat → SD
  | [] => δ
  | v :: vs => (wipeD δ vs).set v none
section
variable {K : PySem.W.Frag} {H : Hp} {M M' : Mem}
theorem RepS.clear {σ : St} {δ : SD} (S : RepS K H M σ δ) (i : Nat) : RepS K H M (σ.set i none) (δ.set i none) := by
  refine ⟨by simp [S.len], fun j e q => ?_⟩
  by_cases z : i = j
  · subst z
    by_cases l : i < δ.length
    · rw [List.getElem?_set_self l] at q; cases q
    · rw [List.getElem?_eq_none (by simp; omega)] at q; cases q
  · rw [List.getElem?_set_ne z] at q ⊢
    exact S.at_ j e q
theorem RepS.wipe {σ : St} {δ : SD} (S : RepS K H M σ δ) : ∀ vs : List Nat, RepS K H M (L2.wipe σ vs) (wipeD δ vs)
  | [] => S
  | v :: vs => (S.wipe vs).clear v
mutual
theorem RepP.drop (h : ∀ a, M a = none → M' a = none) : ∀ (d : PyData) (v : V), RepP K H M v d → RepP K H M' v d
  | .none, _, h' => by cases h'; exact .non
  | .bool _, _, h' => by cases h'; exact .bl _
  | .int _, _, h' => by cases h'; exact .int _
  | .str _, _, h' => by cases h'; exact .str _
  | .list ds, _, h' => by
    cases h' with
    | lst e n r => exact .lst e (h _ n) (RepA.dropM h ds _ r)
  | .tuple ds, _, h' => by
    cases h' with
    | tup e n r => exact .tup e (h _ n) (RepA.dropM h ds _ r)
    | ktp e r => exact .ktp e (RepA.dropM h ds _ r)
  | .dict _, _, h' => by
    cases h' with
    | dct0 e n => exact .dct0 e (h _ n)
theorem RepA.dropM (h : ∀ a, M a = none → M' a = none) : ∀ (ds : List PyData) (vs : List V), RepA K H M vs ds → RepA K H M' vs ds
  | [], _, h' => by cases h'; exact .nil
  | d :: ds, _, h' => by
    cases h' with
    | cons h1 h2 => exact .cons (RepP.drop h d _ h1) (RepA.dropM h ds _ h2)
end
theorem Rep.drop (h : ∀ a, M a = none → M' a = none) : ∀ {v : V} {d : DV}, Rep K H M v d → Rep K H M' v d
  | _, .d x, r => RepP.drop h x _ r
  | _, .r _, r => r
  | _, .s ns, ⟨a, e, r⟩ => ⟨a, e, r.elim (fun q => .inl ⟨q.1, h _ q.2⟩) .inr⟩
theorem RepL.drop (h : ∀ a, M a = none → M' a = none) {vs : List V} {ds : List DV} (r : RepL K H M vs ds) : RepL K H M' vs ds := Paired.mapP r fun _ _ q => q.drop h
theorem mupd_none {M : Mem} {D : Addr} {o : MO} (hD : M D = none) : ∀ a, mupd M D o a = none → M a = none := fun a h => by
  by_cases e : a = D
  · subst e; exact hD
  · rw [mupd_ne e] at h; exact h
theorem RelM.unM {D : Addr} {o : MO} (hD : M D = none) (R : RelM K H (mupd M D o)) : RelM K H M := fun a m e => by
  have hne : a ≠ D := by rintro rfl; rw [hD] at e; cases e
  have q := R a m (by rw [mupd_ne hne]; exact e)
  cases m with
  | lst xs => obtain ⟨vs, a1, a2⟩ := q; exact ⟨vs, a1, RepL.drop (mupd_none hD) a2⟩
  | tup xs => obtain ⟨vs, a1, a2⟩ := q; exact ⟨vs, a1, RepL.drop (mupd_none hD) a2⟩
theorem Keep.unM {H1 : Hp} {M1 : Mem} {D : Addr} {o : MO} (hD : M D = none) (k : Keep H1 M1 H (mupd M D o)) : Keep H1 M1 H M := fun a n u e => ⟨(k a n u e).1, mupd_none hD a (k a n u e).2⟩
end
theorem wipe_wipe (σ : St) (vs : List Nat) : wipe (wipe σ vs) vs = wipe σ vs := by
  have key : ∀ ws : List Nat, (∀ w ∈ ws, w ∈ vs) → wipe (wipe σ ws) vs = wipe σ vs := by
    intro ws
    induction ws with
    | nil => intro _; rfl
    | cons w ws ih =>
      intro h
      show wipe ((wipe σ ws).set w none) vs = _
      rw [wipe_set (h w (by simp)), ih fun x hx => h x (by simp [hx])]
  exact key vs fun _ h => h
def compD (ok : Mem → Prop) (g : WG) (tt : WT) (te : WE) (δ0 : SD) (D : Addr) (fin : List DV → Mem → Prop) : List DV → List DV → Mem → Prop
  | [], acc, M => ok (mupd M D (.lst acc)) ∧ fin acc M
  | x :: xs, acc, M => ok (mupd M D (.lst acc)) ∧ g x δ0 fun δ1 => tt δ1 (mupd M D (.lst acc)) fun b M2 =>
    if b = true then te δ1 M2 fun y M3 => M3 D = some (.lst acc) ∧ acc.length < sizeLine ∧ compD ok g tt te δ0 D fin xs (acc ++ [y]) (mdel M3 D)
    else M2 D = some (.lst acc) ∧ compD ok g tt te δ0 D fin xs acc (mdel M2 D)
def finF (Q : DQ) : Addr → List DV → Mem → Prop := fun _ acc M => match allD acc with
  | some xs => Q (.d (.list xs)) M
  | none => False
def finM (Q : DQ) : Addr → List DV → Mem → Prop := fun D acc M => Q (.r D) (mupd M D (.lst acc))
abbrev Fin := DQ → Addr → List DV → Mem → Prop
def wLc (fin : Fin) (ws : WI) (g : WG) (tt : WT) (te : WE) (vs : List Nat) : WE := fun δ M Q => ws δ M fun items ok M1 => ∀ D, M1 D = none → compD ok g tt te (wipeD δ vs) D (fin Q D) items [] M1
def FinOk (K : PySem.W.Frag) (fin : Fin) : Prop := ∀ (Qd : DQ) (H : Hp) (M : Mem) (D : Addr) (acc : List DV) (vs : List V), M D = none → RelM K H (mupd M D (.lst acc)) → H D = some (.lst vs) → RepL K H (mupd M D (.lst acc)) vs acc → fin Qd D acc M →
  ∃ d M', Keep H (mupd M D (.lst acc)) H M' ∧ RelM K H M' ∧ Rep K H M' (.ref D) d ∧ Qd d M'
theorem Keep.sub {H : Hp} {M M' : Mem} (h : ∀ a, M a = none → M' a = none) : Keep H M H M' := fun a n u e => ⟨e, h a n⟩
theorem finF_ok {K : PySem.W.Frag} : FinOk K finF := fun Qd H M D acc vs hD R e r h => by
  unfold finF at h
  split at h
  · rename_i xs ea
    refine ⟨.d (.list xs), M, Keep.sub (mupd_none hD), R.unM hD, ?_, h⟩
    rw [allD_eq ea] at r
    exact RepP.lst e hD (RepL.toA (RepL.drop (mupd_none hD) r))
  · exact h.elim
theorem finM_ok {K : PySem.W.Frag} : FinOk K finM := fun Qd H M D acc vs hD R e r h => ⟨.r D, _, Keep.refl _ _, R, rfl, h⟩
structure DTs (X : Cx) (ifs : List Expr) (t : WT) : Prop where
  run : PTs X ifs (liftT X.K t)
def wYes : WT := fun _ M Q => Q true M
theorem dts_nil {X : Cx} : DTs X [] wYes := ⟨⟨fun pins s σ H Q I ⟨δ, M, Qd, S, R, h, E⟩ => pts_nil.run pins s σ H Q I (E true M H (Keep.refl _ _) R h)⟩⟩
theorem dts_one {X : Cx} {c : Expr} {t : WT} (h : DT X c t) : DTs X [c] t := ⟨pts_one h⟩

section
variable {X : Cx} {elt tg iter : Expr} {ifs : List Expr} {scope : Scope} {own : List (Str × Nat)} {pos : Pos} {ws : WI} {g : TG} {gd : WG} {tt : WT} {te : WE} {fin : Fin}
theorem comp_loop {K : PySem.W.Frag} {J : It} {items : List DV} {ok : Mem → Prop} {vs : List Nat} {σ : St} {δ : SD} {D : Addr} {H0 : Hp} {M0 : Mem} {acc0 : List DV} {fn : List DV → Mem → Prop} {Q : Hp → Prop} (sim : GSim K g gd vs)
    (it : ItD K H0 (mupd M0 D (.lst acc0)) J items ok) (S : RepS K H0 (mupd M0 D (.lst acc0)) σ δ) (R : RelM K H0 (mupd M0 D (.lst acc0))) (hD : M0 D = none)
    (h : compD ok gd tt te (wipeD δ vs) D fn items acc0 M0)
    (hq : ∀ acc M H, M D = none → Keep H0 (mupd M0 D (.lst acc0)) H (mupd M D (.lst acc)) → RelM K H (mupd M D (.lst acc)) → fn acc M → Q H) :
    ∃ W : Nat → Nat → Hp → Prop, (∃ m, W 0 m H0) ∧ ∀ i m H, W i m H →
      (J.stop i H ∧ Q H) ∨ (J.go i H ∧ ∃ Nx : Hp → Prop, (∀ H', Nx H' → ∃ m', m' < m ∧ W (i + 1) m' H') ∧ ∀ x H', J.yld i H x H' → g x (wipe σ vs) H' fun σ2 H2 => wipe σ2 vs = wipe σ vs ∧ liftT K tt σ2 H2 fun b H3 =>
        if b = true then lift K te σ2 H3 fun y H4 => ∃ acc, H4 D = some (.lst acc) ∧ acc.length < sizeLine ∧ Nx (upd H4 D (.lst (acc ++ [y]))) else Nx H3) := by
  refine ⟨fun i m H => ∃ M acc, m = items.length - i ∧ i ≤ items.length ∧ M D = none ∧ Keep H0 (mupd M0 D (.lst acc0)) H (mupd M D (.lst acc)) ∧ RelM K H (mupd M D (.lst acc)) ∧ compD ok gd tt te (wipeD δ vs) D fn (items.drop i) acc M,
    ⟨items.length, M0, acc0, by simp, Nat.zero_le _, hD, Keep.refl _ _, R, by simpa using h⟩, ?_⟩
  rintro i m H ⟨M, acc, rfl, hi, hM, k, R', hw⟩
  by_cases hlt : i < items.length
  · have hget : items[i]? = some items[i] := by simp [hlt]
    rw [drop_get hget] at hw
    obtain ⟨hok, hw⟩ := hw
    refine .inr ⟨it.go i H _ k R' hok hlt, fun H2 => ∃ M2 acc2, M2 D = none ∧ Keep H0 (mupd M0 D (.lst acc0)) H2 (mupd M2 D (.lst acc2)) ∧ RelM K H2 (mupd M2 D (.lst acc2)) ∧ compD ok gd tt te (wipeD δ vs) D fn (items.drop (i + 1)) acc2 M2,
      fun H2 ⟨M2, acc2, a, b, c, d⟩ => ⟨items.length - (i + 1), by omega, M2, acc2, rfl, hlt, a, b, c, d⟩, fun x H2 y => ?_⟩
    obtain ⟨d, hd, k2, R2, rx⟩ := it.yld i H _ x H2 k R' hok hlt y
    rw [hget] at hd
    cases hd
    have kk := k.trans k2
    refine sim x (wipe σ vs) H2 _ _ (wipeD δ vs) _ _ rx ((S.keep kk).wipe vs) R2 hw fun σ3 δ3 S3 hwp q => ⟨hwp.trans (wipe_wipe σ vs), δ3, _, _, S3, R2, q, fun b M3 H3 k3 R3 h3 => ?_⟩
    by_cases hb : b = true
    · rw [if_pos hb] at h3 ⊢
      refine ⟨δ3, M3, _, S3.keep k3, R3, h3, fun y M4 v H4 k4 R4 r4 h4 => ?_⟩
      obtain ⟨hD4, hz, hn⟩ := h4
      obtain ⟨us, hu, ru⟩ := R4 D _ hD4
      have kp := Keep.put (H := H4) (o := .lst (us ++ [v])) (m' := .lst (acc ++ [y])) hD4
      refine ⟨us, hu, by rw [Paired.length ru]; exact hz, mdel M4 D, acc ++ [y], mdel_same, ?_, ?_, hn⟩
      · rw [mupd_mdel]
        exact ((kk.trans k3).trans k4).trans kp
      · rw [mupd_mdel]
        exact R4.put hD4 ⟨_, upd_same, RepL.keep kp (RepL.app ru (.cons r4 .nil))⟩
    · rw [if_neg hb] at h3 ⊢
      obtain ⟨hD3, hn⟩ := h3
      refine ⟨mdel M3 D, acc, mdel_same, ?_, ?_, hn⟩
      · rw [mupd_mdel, mupd_self hD3]
        exact kk.trans k3
      · rw [mupd_mdel, mupd_self hD3]
        exact R3
  · have e : i = items.length := by omega
    subst e
    rw [List.drop_length] at hw
    exact .inl ⟨it.stop H _ k R' hw.1, hq acc M H hM k R' hw.2⟩
theorem ItD.later {K : PySem.W.Frag} {H0 H1 : Hp} {M0 M1 : Mem} {J : It} {items : List DV} {ok : Mem → Prop} (it : ItD K H0 M0 J items ok) (k : Keep H0 M0 H1 M1) : ItD K H1 M1 J items ok :=
  ⟨fun i H M k' => it.go i H M (k.trans k'), fun i H M x H' k' => it.yld i H M x H' (k.trans k'), fun H M k' => it.stop H M (k.trans k')⟩
theorem lc_sim {K : PySem.W.Frag} {vs : List Nat} (hf : FinOk K fin) (sim : GSim K g gd vs) {σ : St} {H : Hp} {Q : VK} (h : lift K (wLc fin ws gd tt te vs) σ H Q) : tLc (liftI K ws) g (liftT K tt) (lift K te) vs σ H Q := by
  obtain ⟨δ, M, Qd, S, R, h, E⟩ := h
  refine ⟨δ, M, _, S, R, h, fun items ok M1 H1 J k1 R1 h1 it D hD => ?_⟩
  have hM := R1.no hD
  have kn := Keep.newM R1 (o := .lst []) (m := .lst []) hD
  have Rn : RelM K (upd H1 D (.lst [])) (mupd M1 D (.lst [])) := R1.newM hD ⟨[], upd_same, .nil⟩
  refine comp_loop (Q := Q (.ref D)) sim (it.later kn) ((S.keep k1).keep kn) Rn hM (h1 D hM) fun acc M2 H2 hM2 k2 R2 q => ?_
  obtain ⟨us, hu, ru⟩ := R2 D _ mupd_same
  obtain ⟨d, M', k3, R3, r3, q3⟩ := hf Qd H2 M2 D acc us hM2 R2 hu ru q
  exact E d M' _ H2 (((k1.trans kn).trans k2).trans k3) R3 r3 q3
theorem de_lc (hf : FinOk X.K fin) (hc : X.calm = true) (hN : X.N.Nodup) (hi : DI X tg iter ws) (ok : BlkOk X.N X.env.scope scope own)
    (sim : GSim X.K g gd (own.map (·.2))) (hg : ∀ (s : Shared) (H : Hp) (C : Addr) (cl : List (Str × Addr)) (fp : List Addr), PG (X.blk s H scope (compEnvC scope cl C X.env) fp) tg g) (ht : ∀ (s : Shared) (H : Hp) (C : Addr) (cl : List (Str × Addr)) (fp : List Addr), DTs (X.blk s H scope (compEnvC scope cl C X.env) fp) ifs tt)
    (he : ∀ (s : Shared) (H : Hp) (C : Addr) (cl : List (Str × Addr)) (fp : List Addr), DE (X.blk s H scope (compEnvC scope cl C X.env) fp) elt te) (hs : ∀ x, foldedSetIterable iter X.env x = pure x := by intro _; rfl) :
    DE X (.ListComp elt [⟨tg, iter, ifs, 0⟩] scope pos) (wLc fin ws gd tt te (own.map (·.2))) :=
  pe_imp (pe_lc hc hN hi ok hg (fun s H C cl fp => (ht s H C cl fp).run) he hs) fun σ H Q h => lc_sim hf sim h
theorem ds_setLc {i : Nat} {y : Str} {py spos : Pos} (hf : FinOk X.K fin) (hc : X.calm = true) (hN : X.N.Nodup) (hy : X.N[i]? = some y) (hyl : X.env.scope.names.lookup y = some .local)
    (hsw : swapsWith (.ListComp elt [⟨tg, iter, ifs, 0⟩] scope pos) (some (.Name y py)) spos.line X.env = pure true) (hi : DI X tg iter ws) (ok : BlkOk X.N X.env.scope scope own)
    (sim : GSim X.K g gd (own.map (·.2))) (hg : ∀ (s : Shared) (H : Hp) (C : Addr) (cl : List (Str × Addr)) (fp : List Addr), PG (X.blk s H scope (compEnvC scope cl C X.env) fp) tg g) (ht : ∀ (s : Shared) (H : Hp) (C : Addr) (cl : List (Str × Addr)) (fp : List Addr), DTs (X.blk s H scope (compEnvC scope cl C X.env) fp) ifs tt)
    (he : ∀ (s : Shared) (H : Hp) (C : Addr) (cl : List (Str × Addr)) (fp : List Addr), DE (X.blk s H scope (compEnvC scope cl C X.env) fp) elt te) (hs : ∀ x, foldedSetIterable iter X.env x = pure x := by intro _; rfl) :
    DS X (.Assign [.Name y py] (.ListComp elt [⟨tg, iter, ifs, 0⟩] scope pos) spos) (wAsg (wLc fin ws gd tt te (own.map (·.2))) (gNameD i)) :=
  ps_imp (ps_setLc hc hN hy hyl hsw hi ok hg (fun s H C cl fp => (ht s H C cl fp).run) he hs) fun D σ H ⟨δ, M, E, S, R, h, e1, e2, e3, e4⟩ =>
    lc_sim hf sim ⟨δ, M, _, S, R, h, fun d M1 v H1 k1 R1 r1 h1 => e1 _ M1 _ H1 k1 R1 ((S.keep k1).set r1 i) h1⟩
def wLc2 (fin : Fin) (ws : WI) (g : WG) (tt : WT) (ws1 : WI) (g1 : WG) (tt1 : WT) (te : WE) (vs vs1 : List Nat) : WE := fun δ M Q => ws δ M fun items ok M1 => ∀ D, M1 D = none → comp2 ok g tt ws1 g1 tt1 te (wipeD δ vs) vs1 D (fin Q D) items [] M1
where
  comp2 (ok : Mem → Prop) (g : WG) (tt : WT) (ws1 : WI) (g1 : WG) (tt1 : WT) (te : WE) (δ0 : SD) (vs1 : List Nat) (D : Addr) (fin : List DV → Mem → Prop) : List DV → List DV → Mem → Prop
  | [], acc, M => ok (mupd M D (.lst acc)) ∧ fin acc M
  | x :: xs, acc, M => ok (mupd M D (.lst acc)) ∧ g x δ0 fun δ1 => tt δ1 (mupd M D (.lst acc)) fun b M2 =>
    if b = true then ws1 δ1 M2 fun items1 ok1 M3 => M3 D = some (.lst acc) ∧ compD ok1 g1 tt1 te (wipeD δ1 vs1) D (fun acc' M' => comp2 ok g tt ws1 g1 tt1 te δ0 vs1 D fin xs acc' M') items1 acc (mdel M3 D)
    else M2 D = some (.lst acc) ∧ comp2 ok g tt ws1 g1 tt1 te δ0 vs1 D fin xs acc (mdel M2 D)
theorem lc2_sim {K : PySem.W.Frag} {vs vs1 : List Nat} {ws1 : WI} {g1 : TG} {gd1 : WG} {tt1 : WT} (hf : FinOk K fin) (sim : GSim K g gd vs) (sim1 : GSim K g1 gd1 vs1) {σ : St} {H : Hp} {Q : VK} (h : lift K (wLc2 fin ws gd tt ws1 gd1 tt1 te vs vs1) σ H Q) :
    tLc2 (liftI K ws) g (liftT K tt) (liftI K ws1) g1 (liftT K tt1) (lift K te) vs vs1 σ H Q := by
  obtain ⟨δ, M, Qd, S, R, h, E⟩ := h
  refine ⟨δ, M, _, S, R, h, fun items ok M1 H1 J k1 R1 h1 it D hD => ?_⟩
  have hM := R1.no hD
  have kn := Keep.newM R1 (o := .lst []) (m := .lst []) hD
  have Rn : RelM K (upd H1 D (.lst [])) (mupd M1 D (.lst [])) := R1.newM hD ⟨[], upd_same, .nil⟩
  have it' := it.later kn
  have S' := (S.keep k1).keep kn
  refine ⟨fun i m H' => ∃ M' acc, m = items.length - i ∧ i ≤ items.length ∧ M' D = none ∧ Keep (upd H1 D (.lst [])) (mupd M1 D (.lst [])) H' (mupd M' D (.lst acc)) ∧ RelM K H' (mupd M' D (.lst acc)) ∧ wLc2.comp2 ok gd tt ws1 gd1 tt1 te (wipeD δ vs) vs1 D (fin Qd D) (items.drop i) acc M',
    ⟨items.length, M1, [], by simp, Nat.zero_le _, hM, Keep.refl _ _, Rn, by simpa using h1 D hM⟩, ?_⟩
  rintro i m H' ⟨M', acc, rfl, hi, hM', k, R', hw⟩
  by_cases hlt : i < items.length
  · have hget : items[i]? = some items[i] := by simp [hlt]
    rw [drop_get hget] at hw
    obtain ⟨hok, hw⟩ := hw
    refine .inr ⟨it'.go i H' _ k R' hok hlt, fun H2 => ∃ M2 acc2, M2 D = none ∧ Keep (upd H1 D (.lst [])) (mupd M1 D (.lst [])) H2 (mupd M2 D (.lst acc2)) ∧ RelM K H2 (mupd M2 D (.lst acc2)) ∧ wLc2.comp2 ok gd tt ws1 gd1 tt1 te (wipeD δ vs) vs1 D (fin Qd D) (items.drop (i + 1)) acc2 M2,
      fun H2 ⟨M2, acc2, a, b, c, d⟩ => ⟨items.length - (i + 1), by omega, M2, acc2, rfl, hlt, a, b, c, d⟩, fun x H2 y => ?_⟩
    obtain ⟨d, hd, k2, R2, rx⟩ := it'.yld i H' _ x H2 k R' hok hlt y
    rw [hget] at hd
    cases hd
    have kk := k.trans k2
    refine sim x (wipe σ vs) H2 _ _ (wipeD δ vs) _ _ rx ((S'.keep kk).wipe vs) R2 hw fun σ3 δ3 S3 hwp q => ⟨hwp.trans (wipe_wipe σ vs), δ3, _, _, S3, R2, q, fun b M3 H3 k3 R3 h3 => ?_⟩
    by_cases hb : b = true
    · rw [if_pos hb] at h3 ⊢
      refine ⟨δ3, M3, _, S3.keep k3, R3, h3, fun items1 ok1 M4 H4 J1 k4 R4 h4 it1 => ?_⟩
      obtain ⟨hD4, h4⟩ := h4
      have eM : mupd (mdel M4 D) D (.lst acc) = M4 := by rw [mupd_mdel, mupd_self hD4]
      refine comp_loop (M0 := mdel M4 D) (acc0 := acc) (δ := δ3) sim1 (by rw [eM]; exact it1) (by rw [eM]; exact (S3.keep k3).keep k4) (by rw [eM]; exact R4) mdel_same h4 fun acc5 M5 H5 hM5 k5 R5 q5 => ?_
      rw [eM] at k5
      exact ⟨M5, acc5, hM5, ((kk.trans k3).trans k4).trans k5, R5, q5⟩
    · rw [if_neg hb] at h3 ⊢
      obtain ⟨hD3, hn⟩ := h3
      refine ⟨mdel M3 D, acc, mdel_same, ?_, ?_, hn⟩
      · rw [mupd_mdel, mupd_self hD3]
        exact kk.trans k3
      · rw [mupd_mdel, mupd_self hD3]
        exact R3
  · have e : i = items.length := by omega
    subst e
    rw [List.drop_length] at hw
    obtain ⟨us, hu, ru⟩ := R' D _ mupd_same
    obtain ⟨d, M2, k3, R3, r3, q3⟩ := hf Qd H' M' D acc us hM' R' hu ru hw.2
    exact .inl ⟨it'.stop H' _ k R' hw.1, E d M2 _ H' (((k1.trans kn).trans k).trans k3) R3 r3 q3⟩
theorem de_lc2 {tg1 iter1 : Expr} {ifs1 : List Expr} {vs1 : List Nat} {ws1 : WI} {g1 : TG} {gd1 : WG} {tt1 : WT} (hf : FinOk X.K fin) (hc : X.calm = true) (hN : X.N.Nodup) (hi : DI X tg iter ws) (ok : BlkOk X.N X.env.scope scope own) (hv : ∀ i ∈ vs1, i ∈ own.map (·.2))
    (sim : GSim X.K g gd (own.map (·.2))) (hg : ∀ (s : Shared) (H : Hp) (C : Addr) (cl : List (Str × Addr)) (fp : List Addr), PG (X.blk s H scope (compEnvC scope cl C X.env) fp) tg g) (ht : ∀ (s : Shared) (H : Hp) (C : Addr) (cl : List (Str × Addr)) (fp : List Addr), DTs (X.blk s H scope (compEnvC scope cl C X.env) fp) ifs tt)
    (hi1 : ∀ (s : Shared) (H : Hp) (C : Addr) (cl : List (Str × Addr)) (fp : List Addr), DI (X.blk s H scope (compEnvC scope cl C X.env) fp) tg1 iter1 ws1)
    (sim1 : GSim X.K g1 gd1 vs1) (hg1 : ∀ (s : Shared) (H : Hp) (C : Addr) (cl : List (Str × Addr)) (fp : List Addr), PG (X.blk s H scope (compEnvC scope cl C X.env) fp) tg1 g1) (ht1 : ∀ (s : Shared) (H : Hp) (C : Addr) (cl : List (Str × Addr)) (fp : List Addr), DTs (X.blk s H scope (compEnvC scope cl C X.env) fp) ifs1 tt1)
    (he : ∀ (s : Shared) (H : Hp) (C : Addr) (cl : List (Str × Addr)) (fp : List Addr), DE (X.blk s H scope (compEnvC scope cl C X.env) fp) elt te) (hs : ∀ x, foldedSetIterable iter X.env x = pure x := by intro _; rfl) (hs1 : ∀ env x, foldedSetIterable iter1 env x = pure x := by intro _ _; rfl) :
    DE X (.ListComp elt [⟨tg, iter, ifs, 0⟩, ⟨tg1, iter1, ifs1, 0⟩] scope pos) (wLc2 fin ws gd tt ws1 gd1 tt1 te (own.map (·.2)) vs1) :=
  pe_imp (pe_lc2 hc hN hi ok hv hg (fun s H C cl fp => (ht s H C cl fp).run) hi1 hg1 (fun s H C cl fp => (ht1 s H C cl fp).run) he hs hs1) fun σ H Q h => lc2_sim hf sim sim1 h
theorem ds_setLc2 {i : Nat} {y : Str} {py spos : Pos} {tg1 iter1 : Expr} {ifs1 : List Expr} {vs1 : List Nat} {ws1 : WI} {g1 : TG} {gd1 : WG} {tt1 : WT} (hf : FinOk X.K fin) (hc : X.calm = true) (hN : X.N.Nodup) (hy : X.N[i]? = some y) (hyl : X.env.scope.names.lookup y = some .local)
    (hsw : swapsWith (.ListComp elt [⟨tg, iter, ifs, 0⟩, ⟨tg1, iter1, ifs1, 0⟩] scope pos) (some (.Name y py)) spos.line X.env = pure true) (hi : DI X tg iter ws) (ok : BlkOk X.N X.env.scope scope own) (hv : ∀ i ∈ vs1, i ∈ own.map (·.2))
    (sim : GSim X.K g gd (own.map (·.2))) (hg : ∀ (s : Shared) (H : Hp) (C : Addr) (cl : List (Str × Addr)) (fp : List Addr), PG (X.blk s H scope (compEnvC scope cl C X.env) fp) tg g) (ht : ∀ (s : Shared) (H : Hp) (C : Addr) (cl : List (Str × Addr)) (fp : List Addr), DTs (X.blk s H scope (compEnvC scope cl C X.env) fp) ifs tt)
    (hi1 : ∀ (s : Shared) (H : Hp) (C : Addr) (cl : List (Str × Addr)) (fp : List Addr), DI (X.blk s H scope (compEnvC scope cl C X.env) fp) tg1 iter1 ws1)
    (sim1 : GSim X.K g1 gd1 vs1) (hg1 : ∀ (s : Shared) (H : Hp) (C : Addr) (cl : List (Str × Addr)) (fp : List Addr), PG (X.blk s H scope (compEnvC scope cl C X.env) fp) tg1 g1) (ht1 : ∀ (s : Shared) (H : Hp) (C : Addr) (cl : List (Str × Addr)) (fp : List Addr), DTs (X.blk s H scope (compEnvC scope cl C X.env) fp) ifs1 tt1)
    (he : ∀ (s : Shared) (H : Hp) (C : Addr) (cl : List (Str × Addr)) (fp : List Addr), DE (X.blk s H scope (compEnvC scope cl C X.env) fp) elt te) (hs : ∀ x, foldedSetIterable iter X.env x = pure x := by intro _; rfl) (hs1 : ∀ env x, foldedSetIterable iter1 env x = pure x := by intro _ _; rfl) :
    DS X (.Assign [.Name y py] (.ListComp elt [⟨tg, iter, ifs, 0⟩, ⟨tg1, iter1, ifs1, 0⟩] scope pos) spos) (wAsg (wLc2 fin ws gd tt ws1 gd1 tt1 te (own.map (·.2)) vs1) (gNameD i)) :=
  ps_imp (ps_setLc2 hc hN hy hyl hsw hi ok hv hg (fun s H C cl fp => (ht s H C cl fp).run) hi1 hg1 (fun s H C cl fp => (ht1 s H C cl fp).run) he hs hs1) fun D σ H ⟨δ, M, E, S, R, h, e1, e2, e3, e4⟩ =>
    lc2_sim hf sim sim1 ⟨δ, M, _, S, R, h, fun d M1 v H1 k1 R1 r1 h1 => e1 _ M1 _ H1 k1 R1 ((S.keep k1).set r1 i) h1⟩
theorem gssim_nil {K : PySem.W.Frag} {vs : List Nat} : GsSim K gNil gNilD vs := fun xs σ H Q ds δ M Qd r S R q E => by
  obtain ⟨rfl, q⟩ := q
  cases r
  exact ⟨rfl, E _ _ S rfl q⟩
theorem gssim_cons {K : PySem.W.Frag} {vs : List Nat} {g : TG} {gs : TGs} {gd : WG} {gsd : WGs} (s : GSim K g gd vs) (ss : GsSim K gs gsd vs) : GsSim K (gCons g gs) (gConsD gd gsd) vs := fun xs σ H Q ds δ M Qd r S R q E => by
  cases r with
  | nil => exact q.elim
  | cons r1 r2 =>
    refine ⟨_, _, rfl, s _ σ H _ _ δ M _ r1 S R q fun σ' δ' S' w' q' => ?_⟩
    exact ss _ σ' H Q _ δ' M Qd r2 S' R q' fun σ2 δ2 S2 w2 q2 => E σ2 δ2 S2 (w2.trans w') q2
theorem gsim_tup {K : PySem.W.Frag} {vs : List Nat} {n : Nat} {gs : TGs} {gsd : WGs} (s : GsSim K gs gsd vs) : GSim K (gTup K n gs) (gTupD n gsd) vs := fun v σ H Q d δ M Qd r S R q E => by
  unfold gTupD at q
  split at q
  · obtain ⟨a, vs', e1, s1, ra⟩ := RepP.tup_inv r
    exact ⟨a, vs', e1, s1, by rw [ra.length]; exact q.1, s _ σ H Q _ δ M Qd ra.toL S R q.2 E⟩
  · exact q.elim
end
end DL
namespace DL
open PySem PySem.Spec L2
open PyProof.Rows hiding St

structure FnG (P : Program) (w : World) (K : PySem.W.Frag) (mg : Str → Option Value) (base : Heap) (CX : CXT) (k : Nat) (f : Addr) (fd : FuncData) (ps : List Str) (sp : Sp) : Prop where
  len : ∀ vs H Q E, sp vs H Q E → vs.length = ps.length
  run : ∀ (A : Around) (outer : List Env) (s : Shared) (H : Hp) (args : Args) (us : List Value) (vs : List V) (Q : VK) (E : XK), Room k A → A.guards = some [] → Env0 P w K mg base A outer s H → BindsTo s fd args (ps.zip us) → Vals vs us → sp vs H Q E →
    codeAny (model P w) A (.call (.ref f) args) (CR CX outer P w H s Q E) s
section
variable {X : Cx} {CX : CXT} {k : Nat} {f C : Addr} {fd : FuncData} {ps : List Str} {sp : Sp} {dvs : List V} {ds : List Value} {E : XK} {x m : Str} {p pos apos : Pos} {e o : Expr} {es : List Expr} {ta : TE} {t : TA}
theorem run_fnG {pins : List (Addr × Obj)} {σ : St} {H : Hp} {s : Shared} {Q : VK} {us : List Value} {vs : List V} (F : FnG X.prog X.w X.K X.mg X.base CX k f fd ps sp) (hr : Room k X.A) (hgd : X.A.guards = some []) (hb : Binds X.K fd ps []) (hx : Passes CX X E)
    (I : Inv X pins σ H s) (r : Vals vs us) (h : sp vs H Q E) : wpAny (model X.prog X.w) X.A (call (.ref f) us) (EP X pins σ Q) X.xe s := by
  have hl : (us ++ []).length = ps.length := by rw [List.append_nil, ← r.length]; exact F.len _ _ _ _ h
  have hb' := hb s us I.kIn hl
  rw [List.append_nil] at hb'
  refine wpAny_call (codeAny_mono (F.run X.A X.stack s H ⟨us, []⟩ us vs Q E hr hgd I.env0 hb' r h) fun r s' hq => ?_)
  cases r with
  | error e => exact hx pins σ H s e s' I hq
  | ok fl =>
    cases fl with
    | ret u => exact I.after hq
    | next => exact False.elim hq
    | brk => exact False.elim hq
    | cont => exact False.elim hq
theorem pe_callG (F : FnG X.prog X.w X.K X.mg X.base CX k f fd ps sp) (hr : Room k X.A) (hgd : X.A.guards = some []) (hg : Gl X x) (hm : X.mg x = some (.ref f)) (hk : PySem.W.keepIn X.K (.ref f) = true) (hb : Binds X.K fd ps []) (hx : Passes CX X E)
    (ha : PA X (e :: es) t) (hdb : (x == ("__debug__" : Str)) = false := by decide) (he : starEach (e :: es) X.env = (false, eval e X.env) :: starEach es X.env := by rfl) (hpl : (backTo pos (starEach es X.env)).any (·.1) = false := by rfl) :
    PE X (.Call (.Name x p) (e :: es) [] pos) (tCall sp [] E t) := by
  refine ⟨fun pins s σ H Q I h => ?_⟩
  refine wpAny_Call_Name_kw (ld_glob I hg hm ?_ hdb)
  refine PySem.W.callWith_K (h₀ := X.base) I.ok.mod.kin hk (thn (ha.run pos pins s σ H _ I h) fun us s1 ⟨vs, H1, I1, r, q⟩ => ⟨I1.kIn, ?_⟩) he hpl
  have q : sp (vs ++ []) H1 Q E := q
  rw [List.append_nil] at q
  exact run_fnG F hr hgd hb hx I1 r q
theorem fnG_of {P : Program} {w : World} {K : PySem.W.Frag} {mg : Str → Option Value} {base : Heap} {name qual : Str} {params : Arguments} {body : List Stmt} {scope : Scope} {dV kV doc pm cdv ct oc : Value} {an od : Option Addr}
    {osl : Array (Option Value)} {N : List Str} (lk : K.lookup f = some ⟨oc, od, .func (PySem.W.fnOf name qual params body scope dV kV doc pm an cdv ct), osl⟩) (hcd : PySem.W.codeIn K cdv qual = true) (S : FnScope N ps scope)
    (len : ∀ vs H Q E, sp vs H Q E → vs.length = ps.length)
    (hbody : ∀ (A : Around) (outer : List Env) (s : Shared) (H : Hp) (vs : List V) (Q : VK) (E : XK), Room k (A.deeper (envOfC qual scope s.heap.objs.size f cdv)) → A.guards = some [] → sp vs H Q E →
      ∃ t, PSs (cxOf CX P w K mg base N qual scope f cdv A outer s H E) body t ∧ t { nx := fun _ H' => Q .non H', rt := Q } (L2.start N vs) H) :
    FnG P w K mg base CX (k + 1) f (PySem.W.fnOf name qual params body scope dV kV doc pm an cdv ct) ps sp := by
  refine ⟨len, fun A outer s H args us vs Q E hr hgd e0 hb r hsp => ?_⟩
  have hl := len _ _ _ _ hsp
  have KX : K.In s.heap := e0.mod.kin.keeps fun b o e => (e0.bs b o e).1
  have lim : s.heap.NoLimit := e0.mod.nolimit.keeps fun b o e => (e0.bs b o e).1
  have hkind : ∀ y ∈ ps.zip us, scope.names.lookup y.1 = some .local ∨ (scope.names.lookup y.1 = some .cell ∧ ((cellsFrom (s.heap.objs.size + 1) scope.names []).lookup y.1).isSome = true) := fun ⟨n, v⟩ hy => by
    rcases S.par n (List.of_mem_zip hy).1 with q | q
    · exact .inl q
    · exact .inr ⟨q, PySem.W.cellsFrom_some _ _ _ (.inl q)⟩
  refine codeAny_call_function hr.depth (KX _ _ lk) rfl S.co S.gen rfl (PySem.W.codeRec_of KX hcd) (hb _ _ _ _ ?_)
  refine wpAny_newFunctionEnv_cells S.kind hkind fun env he s1 x => ?_
  subst he
  refine ⟨lim.keeps x.toInCall.keep, codeAny_func ?_⟩
  obtain ⟨t, ht, hq⟩ := hbody A outer s H vs Q E (hr.deeper _) hgd hsp
  have I : Inv (cxOf CX P w K mg base N qual scope f cdv A outer s H E) [] (L2.start N vs) H s1 := inv_start S hr.hd e0 hl r x
  refine wpAny_mono (ht.run [] s1 (L2.start N vs) H _ I hq) (fun fl s' hs => ?_) fun e s' hs => hs
  have fin : ∀ {σ' : St} {H' : Hp} {v : V} {u : Value}, Inv (cxOf CX P w K mg base N qual scope f cdv A outer s H E) [] σ' H' s' → RelV v u → Q v H' → CE outer P w H s Q u s' :=
    fun {σ' H' v u} J rv q => ⟨v, H', J.os, J.bare, J.base, J.hok, rv, q⟩
  cases fl with
  | ret u =>
    obtain ⟨v, σ', H', J, rv, q⟩ := hs
    exact fin J rv q
  | next =>
    obtain ⟨σ', H', J, q⟩ := hs
    exact fin (v := V.non) (u := Value.none) J rfl q
  | brk =>
    obtain ⟨_, _, _, q⟩ := hs
    exact False.elim q
  | cont =>
    obtain ⟨_, _, _, q⟩ := hs
    exact False.elim q
end
abbrev SpD := List DV → Mem → DQ → Prop
def liftF (K : PySem.W.Frag) (sp : SpD) : Sp := fun vs H Q _ => ∃ ds M Qd, RepL K H M vs ds ∧ RelM K H M ∧ sp ds M Qd ∧ EndD K H M Qd Q
def DFn (P : Program) (w : World) (K : PySem.W.Frag) (mg : Str → Option Value) (base : Heap) (k : Nat) (f : Addr) (fd : FuncData) (ps : List Str) (sp : SpD) : Prop := FnG P w K mg base CX0 k f fd ps (liftF K sp)
structure Callee (P : Program) (w : World) (K : PySem.W.Frag) (mg : Str → Option Value) (base : Heap) (x : Str) (k : Nat) (ps : List Str) (sp : SpD) : Prop where
  ex : ∃ (f : Addr) (fd : FuncData), mg x = some (.ref f) ∧ PySem.W.keepIn K (.ref f) = true ∧ Binds K fd ps [] ∧ DFn P w K mg base k f fd ps sp
def wCall (sp : SpD) (wr : WA) : WE := fun δ M Q => wr δ M fun ds M1 => sp ds M1 Q
theorem de_call {X : Cx} {k j : Nat} {ps : List Str} {sp : SpD} {x : Str} {p pos : Pos} {e : Expr} {es : List Expr} {wr : WA} (F : Callee X.prog X.w X.K X.mg X.base x k ps sp) (hr : Room j X.A) (hgd : X.A.guards = some []) (ha : DA X (e :: es) wr) (hg : Gl X x := by rfl) (hj : k ≤ j := by omega)
    (hdb : (x == ("__debug__" : Str)) = false := by decide) (he : starEach (e :: es) X.env = (false, eval e X.env) :: starEach es X.env := by rfl) (hpl : (backTo pos (starEach es X.env)).any (·.1) = false := by rfl) :
    DE X (.Call (.Name x p) (e :: es) [] pos) (wCall sp wr) := by
  obtain ⟨f, fd, hm, hk, hb, F⟩ := F.ex
  exact pe_imp (pe_callG (E := E0) F (hr.mono hj) hgd hg hm hk hb pass0 ha hdb he hpl) fun σ H Q ⟨δ, M, Qd, S, R, h, E⟩ => ⟨δ, M, _, S, R, h, fun ds M1 vs H1 k1 R1 r1 h1 => by
    show liftF X.K sp (vs ++ []) H1 Q E0
    rw [List.append_nil]
    exact ⟨ds, M1, Qd, r1, R1, h1, E.step k1⟩⟩
def startD (N : List Str) (ds : List DV) : SD := ds.map some ++ List.replicate (N.length - ds.length) none
theorem repS_start {K : PySem.W.Frag} {H : Hp} {M : Mem} {vs : List V} {ds : List DV} {N : List Str} (r : RepL K H M vs ds) : RepS K H M (L2.start N vs) (startD N ds) := by
  have hl := Paired.length r
  unfold L2.start startD
  refine ⟨by simp [hl], fun i d e => ?_⟩
  by_cases h : i < ds.length
  · rw [List.getElem?_append_left (by simpa using h), List.getElem?_map] at e
    rw [List.getElem?_append_left (by simpa [hl] using h), List.getElem?_map]
    cases q : ds[i]? with
    | none => rw [q] at e; cases e
    | some d' =>
      rw [q] at e
      cases e
      obtain ⟨v, hv, rv⟩ := RepL.get r q
      exact ⟨v, by rw [hv]; rfl, rv⟩
  · rw [List.getElem?_append_right (by simpa using h), List.getElem?_replicate] at e
    split at e <;> cases e
section
variable {P : Program} {w : World} {K : PySem.W.Frag} {mg : Str → Option Value} {base : Heap}
theorem fun_okD {x qual : Str} {st : Stmt} {f : Addr} {fd : FuncData} {N ps : List Str} {k : Nat} {sp : SpD} (F : Fun K x qual st f fd) (S : FnScope N ps (defScope st)) (len : ∀ ds M Q, sp ds M Q → ds.length = ps.length)
    (hbody : ∀ (cdv : Value) (A : Around) (outer : List Env) (s : Shared) (H : Hp) (E : XK), Room k (A.deeper (envOfC qual (defScope st) s.heap.objs.size f cdv)) → A.guards = some [] → ∀ (ds : List DV) (M : Mem) (Q : DQ), sp ds M Q →
      ∃ wd, DSs (cxOf CX0 P w K mg base N qual (defScope st) f cdv A outer s H E).nox (defBody st) wd ∧ wd { nx := fun _ M' => Q (.d .none) M', rt := Q } (startD N ds) M) : DFn P w K mg base (k + 1) f fd ps sp := by
  obtain ⟨oc, od, kV, doc, pm, an, cdv, ct, osl, rfl, lk, hcd⟩ := F.ex
  refine fnG_of lk hcd S (fun vs H Q E ⟨ds, M, Qd, r, R, h, _⟩ => by rw [Paired.length r]; exact len ds M Qd h) fun A outer s H vs Q E hr hgd hsp => ?_
  obtain ⟨ds, M, Qd, r, R, h, En⟩ := hsp
  obtain ⟨wd, hd, hw⟩ := hbody cdv A outer s H E hr hgd ds M Qd h
  refine ⟨_, PSs.nox hd, ⟨startD N ds, M, _, repS_start r, R, hw, fun δ' M' σ' H' k' R' S' q => En (.d .none) M' .non H' k' R' .non q, fun d M' v H' k' R' r' q => En d M' v H' k' R' r' q, fun _ _ _ _ _ _ _ q => q.elim, fun _ _ _ _ _ _ _ q => q.elim⟩⟩
theorem callee_mk {x qual nm : Str} {st : Stmt} {f : Addr} {fd : FuncData} {ps : List Str} {k : Nat} {sp : SpD} (F : Fun K x qual st f fd) (hm : mg nm = some (.ref f)) (hb : Binds K fd ps []) (D : DFn P w K mg base k f fd ps sp) : Callee P w K mg base nm k ps sp :=
  ⟨f, fd, hm, F.kp, hb, D⟩
end

def spLaw (n : Nat) : SpD := fun ds M Q => ∃ ns : List Int, ds = [.s ns] ∧ ns.length ≤ n ∧ ∀ M', Q (.d (.bool true)) M'
theorem law_callG {P : Program} {w : World} {K : PySem.W.Frag} {mg mb : Str → Option Value} {CX : CXT} {k : Nat} {fa a : Addr} {fd : FuncData} {x : Str} {sp : Sp} {s₁ : Shared} {vs : List Value} {ns : List Int}
    (KX : K.In s₁.heap) (hns : s₁.heap.Ns mainGlobals mg) (hb : s₁.heap.Ns builtinsNs mb) (hbb : ∀ x : Str, x ≠ "__name__" → mb x = bootBuiltins x) (hlim : s₁.heap.NoLimit) (hg : s₁.gens = #[])
    (ha : s₁.heap.get? a = some { cls := .type "list", data := .seq vs.toArray }) (hi : IntsAre vs ns) (hl : ns.length ≤ sizeLine) (hr : Room k callerA)
    (F : ∀ base : Heap, K.In base → base.Ns mainGlobals mg → FnG P w K mg base CX k fa fd [x] sp) (hbind : ∀ (s : Shared) (u : Value), BindsTo s fd ⟨[u], []⟩ [(x, u)])
    (hsp : ∀ H : Hp, Only H → SqL K H a (ns.map V.int) → sp [.ref a] H (fun v _ => v = .bl true) fun _ _ _ => False)
    (hCX : ∀ H e s', CX [] H s₁ (fun _ _ _ => False) e s' → False) :
    codeAny (model P w) callerA (.call (.ref fa) ⟨[.ref a], []⟩) (fun r s' => r = .ok (.ret (.bool true)) ∧ OldK s₁.heap s'.heap ∧ s'.os = s₁.os ∧ AllBare s'.gens) s₁ := by
  have rv := vals_ints hi
  have lenV := hi.length
  have core : ∀ H : Hp, Only H → SqL K H a (ns.map V.int) → HOk P w H s₁.heap → (∀ b, H b ≠ none → b = a) → (H a ≠ none → K.lookup a = none) →
      codeAny (model P w) callerA (.call (.ref fa) ⟨[.ref a], []⟩) (fun r s' => r = .ok (.ret (.bool true)) ∧ OldK s₁.heap s'.heap ∧ s'.os = s₁.os ∧ AllBare s'.gens) s₁ := by
    intro H hO hS hok hA hK
    have base_of : ∀ {b : Addr} {o : Obj}, s₁.heap.get? b = some o → H b = none → (hidT s₁.heap H).get? b = some o := fun e n => hidT_get e n
    have noA : ∀ {b : Addr} {o : Obj} {es : Array DictEntry} {ep : Nat}, s₁.heap.get? b = some o → o.data = .dict es ep → H b = none := fun {b o es ep} e d => by
      cases q : H b with
      | none => rfl
      | some u =>
        have e' : b = a := hA b (by rw [q]; simp)
        subst e'
        rw [ha] at e; cases e
        have d' : Data.seq vs.toArray _ = Data.dict es ep := d
        cases d'
    have nsK : ∀ {b : Addr} {m : Str → Option Value}, s₁.heap.Ns b m → (hidT s₁.heap H).Ns b m := fun {b m} ⟨o, es, ep, e, d, r⟩ => ⟨o, es, ep, base_of e (noA e d), d, r⟩
    have hKb : K.In (hidT s₁.heap H) := fun b o e => base_of (KX b o e) (by
      cases q : H b with
      | none => rfl
      | some u =>
        have e' : b = a := hA b (by rw [q]; simp)
        subst e'
        rw [hK (by rw [q]; simp)] at e; cases e)
    have hM : Mod K mg (hidT s₁.heap H) := ⟨hKb, nsK hns, ⟨mb, nsK hb, hbb⟩, let ⟨mc, h1, h2⟩ := hlim; ⟨mc, nsK h1, h2⟩⟩
    have e0 : Env0 P w K mg (hidT s₁.heap H) callerA [] s₁ H := ⟨rfl, hM, fun b o e => of_hidT e, Nat.le_of_eq (hidT_size _ _), trivial, fun b hb => absurd (show b ∈ ([] : List Addr) from hb) (by simp), hok, .of_eq hg⟩
    refine codeAny_mono ((F _ hKb (nsK hns)).run callerA [] s₁ H ⟨[.ref a], []⟩ [.ref a] [.ref a] _ _ hr rfl e0 (hbind s₁ (.ref a)) (.cons rfl .nil) (hsp H hO hS)) fun r s' h => ?_
    cases r with
    | error e => exact (hCX H e s' h).elim
    | ok fl =>
      cases fl with
      | next => exact False.elim h
      | brk => exact False.elim h
      | cont => exact False.elim h
      | ret u =>
        obtain ⟨v, H', os, bare, un, hok', r', q⟩ := h
        have q' : v = .bl true := q
        subst q'
        obtain rfl : u = Value.bool true := r'
        refine ⟨rfl, OldK.of_keep fun b o e => ?_, os, bare⟩
        cases q : H b with
        | none => exact un.keep b o e q (by intro z; exact absurd (show b ∈ ([] : List Addr) from z) (by simp)) (by simp)
        | some u =>
          rcases hO b with z | ⟨ob, xs, z⟩
          · rw [q] at z; cases z
          · have z2 := un.frzs b ob _ z
            obtain ⟨e1, _⟩ := hok b _ z
            obtain ⟨e2, _⟩ := hok' b _ z2
            rw [e] at e1; cases e1
            exact e2
  cases hk : K.lookup a with
  | some o =>
    have e := KX a o hk
    rw [ha] at e
    cases e
    refine core (fun _ => none) (fun _ => .inl rfl) (.inr ⟨_, vs.toArray, _, hk, rfl, rfl, rfl, by rw [List.size_toArray, lenV]; exact hl, by simpa using rv⟩) (fun b u z => by have z' : (none : Option HO) = some u := z; cases z') (fun b z => absurd rfl z) fun z => absurd rfl z
  | none =>
    refine core (fun b => if b = a then some (.frz { cls := .type "list", data := .seq vs.toArray } (.lst (ns.map V.int))) else none) (fun b => ?_) (.inl (.inr ⟨{ cls := .type "list", data := .seq vs.toArray }, if_pos rfl⟩)) (fun b u z => ?_) (fun b z => ?_) fun _ => hk
    · by_cases hb : b = a
      · exact .inr ⟨_, _, if_pos hb⟩
      · exact .inl (if_neg hb)
    · by_cases hb : b = a
      · have z' := (if_pos hb).symm.trans z
        cases z'
        subst hb
        exact ⟨ha, by rw [List.length_map]; exact hl, vs, _, rv, ha⟩
      · have z' := (if_neg hb).symm.trans z
        cases z'
    · by_cases hb : b = a
      · exact hb
      · exact absurd (if_neg hb) z
theorem walk_ofD {l : PySem.W.OpenLaw} {k : Nat} {q : Program} {loose : List Str} {XP : (Str → Option Value) → Heap → Prop} {YP : World → Heap → Prop} {d : DefRec} {K : Params → PySem.W.Frag} {x : Str}
    (hn : l.most = some 63) (hdf : d.params.defaults = []) (hr : Room k callerA)
    (hY : ∀ (w : World) (h : Heap), YP w h → (K w.params).In h)
    (F : ∀ (w : World) (mg : Str → Option Value) (fa : Addr) (h : Heap), (K w.params).In h → h.Ns mainGlobals mg → mg d.name = some (.ref fa) →
      ∃ fd : FuncData, (∀ (s : Shared) (u : Value), BindsTo s fd ⟨[u], []⟩ [(x, u)]) ∧
        ∀ base : Heap, (K w.params).In base → base.Ns mainGlobals mg → DFn l.prog w (K w.params) mg base k fa fd [x] (spLaw 63)) :
    PySem.W.WalkO q loose XP YP l.row.toRowW d [] (fun f vs => PySem.call f vs) := by
  refine Att.attach_call hn hdf fun w s₀ s₁ mg mb fa o pm cd doc a vs ns G Y ho hd hcd hmg hobj hints hlen hg => ?_
  have KX := hY w _ Y
  obtain ⟨fd, hb, hF⟩ := F w mg fa _ KX G.T.g hmg
  refine law_callG KX G.T.g G.T.b G.T.builtins G.T.nolimit hg hobj hints (Nat.le_trans hlen (by decide)) hr hF hb (fun H hO hS => ?_) fun _ _ _ z => z
  refine ⟨[.s ns], fun _ => none, fun d _ => d = .d (.bool true), .cons ⟨a, rfl, ?_⟩ .nil, (fun a m e => nomatch e), ⟨ns, rfl, hlen, fun _ => rfl⟩, fun d M' v H' _ _ r q => ?_⟩
  · rcases hS with h | h
    · exact .inl ⟨h, rfl⟩
    · exact .inr h
  · subst q
    exact RepP.bl_inv r
end DL
namespace DL
open PySem PySem.Spec L2
open PyProof.Rows hiding St

section
variable {X : Cx} {pins : List (Addr × Obj)} {σ : St} {H : Hp} {M : Mem} {s : Shared}
mutual
theorem RepP.reprK (I : Inv X pins σ H s) : ∀ (d : PyData) (v : V) (u : Value), RepP X.K H M v d → RelV v u → d.showable = true → d.shown.length ≤ sizeLine → ∃ bs, ReadAtMost s.heap d.depth bs ∧ ReprK X.prog X.w bs s.heap d.depth u d.shown
  | .none, _, _, h, r, _, _ => by
    cases h; cases r
    exact ⟨[], (fun _ h => nomatch h), by simp only [PyData.shown]; exact .of_is ReprIs.none _ _ _⟩
  | .bool b, _, _, h, r, _, _ => by
    cases h; cases r
    exact ⟨[], (fun _ h => nomatch h), by simp only [PyData.shown]; exact .of_is (ReprIs.bool b) _ _ _⟩
  | .int i, _, _, h, r, hs, _ => by
    cases h
    obtain ⟨t, rfl⟩ := r
    exact ⟨[], (fun _ h => nomatch h), by simp only [PyData.shown]; exact .of_is (ReprIs.int t (by simpa [PyData.showable] using hs)) _ _ _⟩
  | .str x, _, _, h, r, _, hz => by
    cases h
    obtain ⟨t, rfl⟩ := r
    exact ⟨[], (fun _ h => nomatch h), by simp only [PyData.shown]; exact .of_is (ReprIs.str x t (by simpa only [PyData.shown] using hz)) _ _ _⟩
  | .list ds, _, _, h, r, hs, hz => by
    obtain ⟨as, rd⟩ := RepP.reads I _ _ _ h r
    have hz' : (listText (PyData.shownAll ds)).length ≤ sizeLine := by simpa only [PyData.shown] using hz
    cases h with
    | lst e n ha =>
      rename_i a xs
      cases r
      obtain ⟨its, rv, ⟨o, n, ho, hc, _, hd⟩, _⟩ := I.list (SqL.of e)
      obtain ⟨bs, hb, hk⟩ := RepA.reprK I ds _ its ha rv (by simpa [PyData.showable] using hs) (fun t ht => Nat.le_trans (listText_mem_le ht) hz')
      have hna : a ∉ bs := not_mem_of_deeper rd (by simp only [PyData.depth]; omega) hb
      refine ⟨a :: bs, ReadAtMost.cons rd (by simp only [PyData.depth]; omega) hb, ?_⟩
      simp only [PyData.depth, PyData.shown]
      cases rv with
      | nil =>
        cases ha
        simp only [PyData.shownAll, listText_nil]
        exact ReprK.listEmpty ho hc hd
      | cons r1 r2 => exact ReprK.list ho hc hd hna (by simpa using hk.length_eq) (fun i y e => hk.item i y (by simpa using e))
  | .tuple ds, _, _, h, r, hs, hz => by
    obtain ⟨as, rd⟩ := RepP.reads I _ _ _ h r
    have hz' : (tupleText (PyData.shownAll ds)).length ≤ sizeLine := by simpa only [PyData.shown] using hz
    obtain ⟨a, xs, e, hq, ha⟩ := RepP.tup_inv h
    subst e
    cases r
    obtain ⟨its, rv, ⟨o, ho, hc, n, hd⟩, _⟩ := I.tuple hq
    obtain ⟨bs, hb, hk⟩ := RepA.reprK I ds _ its ha rv (by simpa [PyData.showable] using hs) (fun t ht => Nat.le_trans (tupleText_mem_le ht) hz')
    have hna : a ∉ bs := not_mem_of_deeper rd (by simp only [PyData.depth]; omega) hb
    refine ⟨a :: bs, ReadAtMost.cons rd (by simp only [PyData.depth]; omega) hb, ?_⟩
    simp only [PyData.depth, PyData.shown]
    exact ReprK.tuple ho hc hd hna (by simpa using hk)
  | .dict _, _, _, h, r, hs, hz => by
    obtain ⟨as, rd⟩ := RepP.reads I _ _ _ h r
    cases h with
    | dct0 e n =>
      rename_i a
      cases r
      obtain ⟨_, hsys, vs, kv, o, es, ep, ho, ex, hd, _, hp, _⟩ := I.hok _ _ e
      cases kv
      have hes : es.toList = [] := by
        cases q : es.toList with
        | nil => rfl
        | cons x l => rw [q] at hp; cases hp
      refine ⟨[a], ReadAtMost.cons rd (by simp only [PyData.depth]; omega : (0 : Nat) ≤ _) (fun _ h => nomatch h), ?_⟩
      simp only [PyData.depth, PyData.shown, PyData.shownKv, PyData.depthKv]
      exact ReprK.dict ho ex.1 hd hsys (by simp) (by rw [hes]; exact .nil)
theorem RepA.reprK (I : Inv X pins σ H s) : ∀ (ds : List PyData) (vs : List V) (us : List Value), RepA X.K H M vs ds → Vals vs us → PyData.showableAll ds = true → (∀ t ∈ PyData.shownAll ds, t.length ≤ sizeLine) →
    ∃ bs, ReadAtMost s.heap (PyData.depthAll ds) bs ∧ ReprAllK X.prog X.w bs s.heap (PyData.depthAll ds) us (PyData.shownAll ds)
  | [], _, _, h, r, _, _ => by
    cases h; cases r
    exact ⟨[], (fun _ h => nomatch h), by simp only [PyData.shownAll]; exact .nil⟩
  | d :: ds, _, _, h, r, hs, hz => by
    cases h with
    | cons h1 h2 =>
      cases r with
      | cons r1 r2 =>
        have hs' : d.showable = true ∧ PyData.showableAll ds = true := by simpa [PyData.showableAll] using hs
        obtain ⟨b1, hb1, k1⟩ := RepP.reprK I d _ _ h1 r1 hs'.1 (hz _ (by simp only [PyData.shownAll]; exact List.mem_cons_self ..))
        obtain ⟨b2, hb2, k2⟩ := RepA.reprK I ds _ _ h2 r2 hs'.2 (fun t ht => hz t (by simp only [PyData.shownAll]; exact List.mem_cons_of_mem _ ht))
        refine ⟨b1 ++ b2, ?_, ?_⟩
        · intro b hm
          simp only [PyData.depthAll]
          rcases List.mem_append.mp hm with hm | hm
          · obtain ⟨d', as', r', hd'⟩ := hb1 b hm
            exact ⟨d', as', r', Nat.le_trans hd' (Nat.le_max_left _ _)⟩
          · obtain ⟨d', as', r', hd'⟩ := hb2 b hm
            exact ⟨d', as', r', Nat.le_trans hd' (Nat.le_max_right _ _)⟩
        · simp only [PyData.depthAll, PyData.shownAll]
          exact .cons ((k1.more fun b hb => List.mem_append_left _ hb).level_le (Nat.le_max_left _ _)) (k2.more_le (fun b hb => List.mem_append_right _ hb) (Nat.le_max_right _ _))
end
def Showy (d : PyData) : Prop := d.showable = true ∧ d.depth ≤ 60 ∧ d.shown.length ≤ sizeLine
def reprD : List DV → Mem → DQ → Prop
  | [.d x], M, Q => Showy x ∧ Q (.d (.str x.shown)) M
  | _, M, Q => False
theorem repr_ok (hg : X.A.guards = some []) (hu : X.A.units + 64 < cLine) (I : Inv X pins σ H s) {d : PyData} {v : V} {u : Value} (h : RepP X.K H M v d) (r : RelV v u) (hs : Showy d) {Q : Value → Shared → Prop} {E : Value → Shared → Prop}
    (hQ : ∀ h' t tk, (∀ b o, s.heap.get? b = some o → h'.get? b = some o) → Q (.str d.shown t) { s with heap := h', toks := tk }) : wpAny (model X.prog X.w) X.A (call (.builtin "repr") [u]) Q E s := by
  obtain ⟨hs, hdp, hz⟩ := hs
  cases d with
  | none =>
    cases h; cases r
    exact P.repr_of_none (by have := hQ s.heap s.toks (s.toks + 1) fun _ _ e => e; simpa only [PyData.shown] using this)
  | bool b =>
    cases h; cases r
    exact P.repr_of_bool (by have := hQ s.heap s.toks (s.toks + 1) fun _ _ e => e; simpa only [PyData.shown] using this)
  | int i =>
    cases h
    obtain ⟨t, rfl⟩ := r
    exact P.repr_of_int (by simpa [PyData.showable] using hs) (by have := hQ s.heap s.toks (s.toks + 1) fun _ _ e => e; simpa only [PyData.shown] using this)
  | str x =>
    cases h
    obtain ⟨t, rfl⟩ := r
    exact P.repr_of_str (by have := hQ s.heap s.toks (s.toks + 1) fun _ _ e => e; simpa only [PyData.shown] using this) (by simpa only [PyData.shown] using hz)
  | list ds =>
    have hz' : (listText (PyData.shownAll ds)).length ≤ sizeLine := by simpa only [PyData.shown] using hz
    obtain ⟨as, rd⟩ := RepP.reads I _ _ _ h r
    cases h with
    | lst e n ha =>
      rename_i a xs
      cases r
      obtain ⟨its, rv, ⟨o, n, ho, hc, _, hd⟩, _⟩ := I.list (SqL.of e)
      obtain ⟨bs, hb, hk⟩ := RepA.reprK I ds _ its ha rv (by simpa [PyData.showable] using hs) (fun t ht => Nat.le_trans (listText_mem_le ht) hz')
      have hna : a ∉ bs := not_mem_of_deeper rd (by simp only [PyData.depth]; omega) hb
      have hdp' : PyData.depthAll ds + 1 ≤ 60 := by simpa only [PyData.depth] using hdp
      refine call_repr_slot (by omega) ⟨o, ho, hc⟩ F.slot_list_repr.toG ?_
      simp only [PyData.shown] at hQ
      cases rv with
      | nil =>
        cases ha
        simp only [PyData.shownAll, listText_nil] at hQ
        exact call_list_repr_empty ⟨o, ho, hc⟩ ho hd ⟨_, _, rfl, hQ s.heap _ _ fun _ _ e => e⟩
      | cons r1 r2 =>
        exact call_list_reprK ho hc hd hna (by simpa using hk.length_eq) (fun i y e => hk.item i y (by simpa using e)) (show X.A.in1.guards = some [] from hg) (fun b _ => Clear.nil b) (by show X.A.units + 1 + (_ + 1) < cLine; omega) (fun _ _ e => e)
          (fun h' t tk k => ⟨_, _, rfl, hQ h' t tk k⟩) hz'
  | tuple ds =>
    have hz' : (tupleText (PyData.shownAll ds)).length ≤ sizeLine := by simpa only [PyData.shown] using hz
    obtain ⟨as, rd⟩ := RepP.reads I _ _ _ h r
    obtain ⟨a, xs, e, hq, ha⟩ := RepP.tup_inv h
    subst e
    cases r
    obtain ⟨its, rv, ⟨o, ho, hc, n, hd⟩, _⟩ := I.tuple hq
    obtain ⟨bs, hb, hk⟩ := RepA.reprK I ds _ its ha rv (by simpa [PyData.showable] using hs) (fun t ht => Nat.le_trans (tupleText_mem_le ht) hz')
    have hna : a ∉ bs := not_mem_of_deeper rd (by simp only [PyData.depth]; omega) hb
    have hdp' : PyData.depthAll ds + 1 ≤ 60 := by simpa only [PyData.depth] using hdp
    refine call_repr_slot (by omega) ⟨o, ho, hc⟩ F.slot_tuple_repr ?_
    simp only [PyData.shown] at hQ
    exact call_tuple_reprK ho hc hd hna (by simpa using hk) (show X.A.in1.guards = some [] from hg) (fun b _ => Clear.nil b) (by show X.A.units + 1 + (_ + 1) < cLine; omega) (fun _ _ e => e)
      (fun h' t tk k => ⟨_, _, rfl, hQ h' t tk k⟩) hz'
  | dict kvs =>
    cases h with
    | dct0 e n =>
      rename_i a
      cases r
      obtain ⟨_, hsys, vs, kv, o, es, ep, ho, ex, hd, _, hp, _⟩ := I.hok _ _ e
      cases kv
      have hes : es.toList = [] := by
        cases q : es.toList with
        | nil => rfl
        | cons x l => rw [q] at hp; cases hp
      refine call_repr_slot (by omega) ⟨o, ho, ex.1⟩ F.slot_dict_repr ?_
      simp only [PyData.shown, PyData.shownKv] at hQ
      refine call_dict_reprK (as := []) (d := 0) (ps := []) ho ex.1 hd hsys (by simp) (by rw [hes]; exact .nil) (show X.A.in1.guards = some [] from hg) (fun b _ => Clear.nil b) (by show X.A.units + 1 + (0 + 1) < cLine; omega) (fun _ _ e => e)
        (fun h' t tk k => ⟨_, _, rfl, hQ h' t tk k⟩) (by decide +kernel)
theorem cd_repr (hg : X.A.guards = some []) (hu : X.A.units + 64 < cLine) : CallD X (.builtin "repr") reprD := by
  intro pins s σ H xs us Q I rs ⟨ds, M, Qd, R, rx, h, E⟩
  unfold reprD at h
  split at h
  · obtain ⟨v, rfl, rv⟩ := one_inv rx
    obtain ⟨u, rfl, ru⟩ := vals1 rs
    exact repr_ok hg hu I rv ru h.1 fun h' t tk k => ⟨.str _, H, I.kept k, ⟨_, rfl⟩, E (.d _) _ _ _ (Keep.refl _ _) R (.str _) h.2⟩
  · exact h.elim
end
end DL
namespace DL
open PySem PySem.Spec L2 RZ
open PyProof.Rows hiding St

def seqD : DV → Mem → (List DV → (Mem → Prop) → Mem → Prop) → Prop
  | .d (.list xs), M, Q => Q (xs.map .d) (fun _ => True) M
  | .d (.tuple xs), M, Q => Q (xs.map .d) (fun _ => True) M
  | .r a, M, Q => (match M a with
    | some (.lst xs) => Q xs (fun M' => M' a = some (.lst xs)) M
    | _ => False)
  | _, _, _ => False
def srcS (we : WE) : WI := fun δ M Q => we δ M fun x M1 => seqD x M1 Q
section
variable {X : Cx} {tg l : Expr} {we : WE} {pos : Pos}
theorem di_seq (hl : DE X l we) : DI X tg l (srcS we) := by
  refine ⟨fun pins s σ H R I ⟨δ, M, Qd, S, Rm, h, E⟩ => ?_⟩
  refine thn (hl.run pins s σ H _ I ⟨δ, M, _, S, Rm, h, fun d M1 v H1 k1 R1 r1 h1 => (show ∃ d M1, Keep H M H1 M1 ∧ RelM X.K H1 M1 ∧ Rep X.K H1 M1 v d ∧ seqD d M1 Qd from ⟨d, M1, k1, R1, r1, h1⟩)⟩) fun u s1 ⟨v, H1, I1, ru, d, M1, k1, R1, r1, h1⟩ => ?_
  have lst : ∀ (a : Addr) (xs : List V) (items : List DV) (ok : Mem → Prop), u = .ref a → SqL X.K H1 a xs → Qd items ok M1 → ItD X.K H1 M1 (Itl X.K a) items ok → wpAny (model X.prog X.w) X.A (pyIter u) (PIE X pins σ tg R) X.xe s1 := fun a xs items ok e hq q it => by
    subst e
    obtain ⟨its, rv, p, hz⟩ := I1.list hq
    refine wpAny_pyIter_list p.isList ?_
    refine ⟨s1.heap.objs.size, [s1.heap.objs.size], _, _, H1, rfl, I1.kept (t' := s1.toks) fun b o e => Heap.get?_push_of_some _ e, turn_list a _, ⟨_, Heap.get?_push_size _ rfl, rfl, rfl⟩, fun b hb => ?_, E items ok M1 H1 _ k1 R1 q it⟩
    have e : b = s1.heap.objs.size := by simpa using hb
    subst e
    exact I1.fpOk (Nat.le_refl _) (I1.hok.fresh (Nat.le_refl _))
  unfold seqD at h1
  split at h1
  · obtain ⟨a, xs, e1, s1', n1, ra⟩ := RepP.lst_inv r1
    subst e1
    exact lst a xs _ _ ru (SqL.of s1') h1 (itd_lst s1' n1 ra)
  · obtain ⟨a, e1, ⟨xs, hs⟩, it⟩ := itd_tup r1
    subst e1
    cases ru
    obtain ⟨its, rv, p, hz⟩ := I1.tuple hs
    refine wpAny_pyIter_tuple (show s1.heap.IsTuple a its.toArray from p) ?_
    refine ⟨s1.heap.objs.size, [s1.heap.objs.size], _, _, H1, rfl, I1.kept (t' := s1.toks) fun b o e => Heap.get?_push_of_some _ e, turn_tuple a _, ⟨_, Heap.get?_push_size _ rfl, rfl, rfl⟩, fun b hb => ?_, E _ _ M1 H1 _ k1 R1 h1 it⟩
    have e : b = s1.heap.objs.size := by simpa using hb
    subst e
    exact I1.fpOk (Nat.le_refl _) (I1.hok.fresh (Nat.le_refl _))
  · rename_i a
    have r1 : v = .ref a := r1
    subst r1
    split at h1
    · rename_i xs hm
      obtain ⟨vs, hv, rl⟩ := R1 a _ hm
      exact lst a vs _ _ ru (SqL.of hv) h1 (itd_mem hm)
    · exact h1.elim
  · exact h1.elim

end
def GI (mg : Str → Option Value) (x : Str) (i : Int) : Prop := ∃ t, mg x = some (.int i t)
structure GK (K : PySem.W.Frag) (mg : Str → Option Value) (x : Str) (d : PyData) : Prop where
  ex : ∃ v u, mg x = some u ∧ RelV v u ∧ KRep K v d
theorem de_gi {X : Cx} {pos : Pos} {x : Str} {i : Int} (hg : Gl X x) (h : GI X.mg x i) (hd : (x == ("__debug__" : Str)) = false := by decide) : DE X (.Name x pos) (wC (.d (.int i))) := by
  obtain ⟨t, h⟩ := h
  exact de_globI hg h hd
theorem de_gk {X : Cx} {pos : Pos} {x : Str} {d : PyData} (hg : Gl X x) (h : GK X.K X.mg x d) (hd : (x == ("__debug__" : Str)) = false := by decide) : DE X (.Name x pos) (wC (.d d)) := by
  obtain ⟨v, u, h1, h2, h3⟩ := h.ex
  exact de_globK hg h1 h2 h3 hd
def PenMO (n : Nat) (mo : MO) : Prop := ∃ (ns : List Int) (at' cur : Int), mo = .lst [.d (.list (ns.map .int)), .d (.int at'), .d (.int cur)] ∧ 0 ≤ at' ∧ at' ≤ n
theorem PenMO.mono {n m : Nat} {mo : MO} (h : PenMO n mo) (hm : n ≤ m) : PenMO m mo := by
  obtain ⟨ns, a, c, e, h0, h1⟩ := h
  exact ⟨ns, a, c, e, h0, by omega⟩
theorem liftF_freeze {K : PySem.W.Frag} {sp sp' : SpD} (h : ∀ ds M Q, sp' ds M Q → sp ds M fun d M' => Q d M' ∨ ∃ p xs M0, d = .r p ∧ M0 p = none ∧ M' = mupd M0 p (.lst (xs.map .d)) ∧ Q (.d (.list xs)) M0) :
    ∀ vs H Q E, liftF K sp' vs H Q E → liftF K sp vs H Q E := by
  intro vs H Q E ⟨ds, M, Qd, r, R, hsp, En⟩
  refine ⟨ds, M, _, r, R, h ds M Qd hsp, fun d M' v H' k' R' r' q => ?_⟩
  rcases q with q | ⟨p, xs, M0, rfl, h0, rfl, q⟩
  · exact En d M' v H' k' R' r' q
  · have r' : v = .ref p := r'
    subst r'
    obtain ⟨us, hu, ru⟩ := R' p _ mupd_same
    exact En (.d (.list xs)) M0 _ H' (Keep.unM h0 k') (RelM.unM h0 R') (RepP.lst hu h0 (RepL.toA (RepL.drop (mupd_none h0) ru))) q
theorem DFn.imp {P : Program} {w : World} {K : PySem.W.Frag} {mg : Str → Option Value} {base : Heap} {k : Nat} {f : Addr} {fd : FuncData} {ps : List Str} {sp sp' : SpD} (F : DFn P w K mg base k f fd ps sp) (h : ∀ vs H Q E, liftF K sp' vs H Q E → liftF K sp vs H Q E) : DFn P w K mg base k f fd ps sp' :=
  ⟨fun vs H Q E q => F.len vs H Q E (h _ _ _ _ q), fun A outer s H args us vs Q E hr hg he hb hv hs => F.run A outer s H args us vs Q E hr hg he hb hv (h _ _ _ _ hs)⟩
theorem DFn.weak {P : Program} {w : World} {K : PySem.W.Frag} {mg : Str → Option Value} {base : Heap} {k : Nat} {f : Addr} {fd : FuncData} {ps : List Str} {sp sp' : SpD} (F : DFn P w K mg base k f fd ps sp) (h : ∀ ds M Q, sp' ds M Q → sp ds M Q) : DFn P w K mg base k f fd ps sp' :=
  F.imp fun vs H Q E ⟨ds, M, Qd, r, R, hsp, En⟩ => ⟨ds, M, Qd, r, R, h ds M Qd hsp, En⟩
theorem Callee.weak {P : Program} {w : World} {K : PySem.W.Frag} {mg : Str → Option Value} {base : Heap} {x : Str} {k j : Nat} {ps : List Str} {sp sp' : SpD} (c : Callee P w K mg base x k ps sp) (hj : k ≤ j) (h : ∀ ds M Q, sp' ds M Q → sp ds M Q) : Callee P w K mg base x j ps sp' := by
  obtain ⟨f, fd, a, b, c, F⟩ := c.ex
  have F' := DFn.weak F h
  exact ⟨f, fd, a, b, c, ⟨F'.len, fun A outer s H args us vs Q E hr => F'.run A outer s H args us vs Q E (hr.mono hj)⟩⟩
theorem liftF_pen {K : PySem.W.Frag} {sp sp' : SpD} (h : ∀ ds M Q, sp' ds M Q → sp ds M fun d M' => ∃ c p ns M0, d = .r p ∧ c ≠ p ∧ M0 c = none ∧ M0 p = none ∧ M' = mupd (mupd M0 c (.lst ((ns : List Int).map fun i => .d (.int i)))) p (.lst [.r c, .d (.int 0), .d (.int 0)]) ∧
      Q (.r p) (mupd M0 p (.lst [.d (.list (ns.map .int)), .d (.int 0), .d (.int 0)]))) :
    ∀ vs H Q E, liftF K sp' vs H Q E → liftF K sp vs H Q E := by
  intro vs H Q E ⟨ds, M, Qd, r, R, hsp, En⟩
  refine ⟨ds, M, _, r, R, h ds M Qd hsp, fun d M' v H' k' R' r' q => ?_⟩
  obtain ⟨c, p, ns, M0, rfl, hcp, hc, hp, rfl, q⟩ := q
  have r' : v = .ref p := r'
  subst r'
  have sub : ∀ a, mupd (mupd M0 c (.lst (ns.map fun i => .d (.int i)))) p (.lst [.r c, .d (.int 0), .d (.int 0)]) a = none → mupd M0 p (.lst [.d (.list (ns.map .int)), .d (.int 0), .d (.int 0)]) a = none := fun a ha => by
    by_cases e : a = p
    · subst e; rw [mupd_same] at ha; cases ha
    · rw [mupd_ne e] at ha ⊢
      exact mupd_none hc a ha
  obtain ⟨us, hu, ru⟩ := R' p _ mupd_same
  obtain ⟨ws, hw, rw'⟩ := R' c (.lst (ns.map fun i => .d (.int i))) (by rw [mupd_ne hcp, mupd_same])
  refine En (.r p) _ _ H' (fun a n u e => ⟨(k' a n u e).1, sub a (k' a n u e).2⟩) ?_ rfl q
  intro a m e
  by_cases ep : a = p
  · subst ep
    rw [mupd_same] at e
    cases e
    cases ru with
    | cons r1 r2 =>
      cases r2 with
      | cons r2 r3 =>
        cases r3 with
        | cons r3 r4 =>
          cases r4
          have r1 : _ = V.ref c := r1
          subst r1
          refine ⟨_, hu, .cons ?_ (.cons (RepP.drop sub _ _ r2) (.cons (RepP.drop sub _ _ r3) .nil))⟩
          refine RepP.lst hw (by rw [mupd_ne hcp]; exact hc) ?_
          refine RepL.toA (RepL.drop sub ?_)
          rw [List.map_map]
          exact rw'
  · rw [mupd_ne ep] at e
    have hac : a ≠ c := by rintro rfl; rw [hc] at e; cases e
    have z := R' a m (by rw [mupd_ne ep, mupd_ne hac]; exact e)
    cases m with
    | lst xs => obtain ⟨vs', a1, a2⟩ := z; exact ⟨vs', a1, RepL.drop sub a2⟩
    | tup xs => obtain ⟨vs', a1, a2⟩ := z; exact ⟨vs', a1, RepL.drop sub a2⟩
theorem room64 {A : Around} {k : Nat} (hr : Room k A) : A.units + 64 < cLine := hr.units
theorem room65 {A : Around} {k : Nat} (hr : Room k A) : A.units + 65 < cLine := by have := hr.un; omega
theorem room0 {A : Around} {k : Nat} (hr : Room k A) : A.units < cLine := hr.units0
theorem compD_map {g : WG} {te : WE} {δ0 : SD} {D : Addr} {fin : List DV → Mem → Prop} (f : DV → PyData) : ∀ (items acc : List DV) (M : Mem), M D = none → acc.length + items.length ≤ sizeLine →
    (∀ x ∈ items, ∀ (M' : Mem) (Q : DQ), Q (.d (f x)) M' → g x δ0 fun δ1 => te δ1 M' Q) → fin (acc ++ items.map fun x => .d (f x)) M → compD (fun _ => True) g wYes te δ0 D fin items acc M
  | [], acc, M, _, _, _, h => ⟨trivial, by simpa using h⟩
  | x :: xs, acc, M, hD, hz, hb, h => by
    refine ⟨trivial, ?_⟩
    show g x δ0 fun δ1 => te δ1 (mupd M D (.lst acc)) fun y M3 => M3 D = some (.lst acc) ∧ acc.length < sizeLine ∧ compD _ g wYes te δ0 D fin xs (acc ++ [y]) (mdel M3 D)
    refine hb x (by simp) (mupd M D (.lst acc)) (fun y M3 => M3 D = some (.lst acc) ∧ acc.length < sizeLine ∧ compD (fun _ => True) g wYes te δ0 D fin xs (acc ++ [y]) (mdel M3 D)) ⟨mupd_same, by simp at hz; omega, ?_⟩
    rw [mdel_mupd hD]
    exact compD_map f xs (acc ++ [.d (f x)]) M hD (by simp at hz ⊢; omega) (fun y hy => hb y (by simp [hy])) (by simpa using h)
theorem allD_mapF {α : Type} (f : α → PyData) (xs : List α) : allD (xs.map fun x => DV.d (f x)) = some (xs.map f) := by
  have := allD_map (xs.map f)
  rw [List.map_map] at this
  exact this
theorem compD_filter {g : WG} {tt : WT} {te : WE} {δ0 : SD} {D : Addr} {fin : List DV → Mem → Prop} (p : DV → Bool) (f : DV → PyData) : ∀ (items acc : List DV) (M : Mem), M D = none → acc.length + items.length ≤ sizeLine →
    (∀ x ∈ items, ∀ (M' : Mem) (Q : Bool → SD → Mem → Prop), (∀ δ1, (∀ Q' : DQ, p x = true → Q' (.d (f x)) M' → te δ1 M' Q') → Q (p x) δ1 M') → g x δ0 fun δ1 => tt δ1 M' fun b M2 => Q b δ1 M2) →
    fin (acc ++ (items.filter p).map fun x => .d (f x)) M → compD (fun _ => True) g tt te δ0 D fin items acc M
  | [], acc, M, _, _, _, h => ⟨trivial, by simpa using h⟩
  | x :: xs, acc, M, hD, hz, hb, h => by
    refine ⟨trivial, ?_⟩
    refine hb x (by simp) (mupd M D (.lst acc)) (fun b δ1 M2 => if b = true then te δ1 M2 fun y M3 => M3 D = some (.lst acc) ∧ acc.length < sizeLine ∧ compD (fun _ => True) g tt te δ0 D fin xs (acc ++ [y]) (mdel M3 D)
      else M2 D = some (.lst acc) ∧ compD (fun _ => True) g tt te δ0 D fin xs acc (mdel M2 D)) fun δ1 he => ?_
    by_cases hp : p x = true
    · rw [if_pos hp]
      refine he _ hp ⟨mupd_same, by simp at hz; omega, ?_⟩
      rw [mdel_mupd hD]
      refine compD_filter p f xs (acc ++ [.d (f x)]) M hD (by simp at hz ⊢; omega) (fun y hy => hb y (by simp [hy])) ?_
      rw [List.filter_cons_of_pos hp] at h
      simpa using h
    · rw [if_neg hp]
      refine ⟨mupd_same, ?_⟩
      rw [mdel_mupd hD]
      refine compD_filter p f xs acc M hD (by simp at hz; omega) (fun y hy => hb y (by simp [hy])) ?_
      rw [List.filter_cons_of_neg hp] at h
      exact h
end DL
namespace DL
open PySem PySem.Spec L2 RZ
open PyProof.Rows hiding St

theorem ixN_lit (m n : Nat) : ixN m (no_index (@OfNat.ofNat Int n instOfNat)) = if n < m then some n else none := by
  show ixN m ((n : Nat) : Int) = _
  unfold ixN
  rw [if_pos (by omega)]
  by_cases h : n < m
  · rw [if_pos (by omega), if_pos h]; simp
  · rw [if_neg (by omega), if_neg h]
theorem atI_lit {α : Type} (xs : List α) (n : Nat) : L2.atI xs (no_index (@OfNat.ofNat Int n instOfNat)) = xs[n]? := by
  unfold L2.atI
  rw [ixN_lit]
  by_cases h : n < xs.length
  · rw [if_pos h]; rfl
  · rw [if_neg h, List.getElem?_eq_none (by omega)]; rfl
theorem ixN_nn {n : Nat} {i : Int} (h0 : 0 ≤ i) (h1 : i < n) : ixN n i = some i.toNat := by
  unfold ixN
  rw [if_pos h0, if_pos h1]
theorem atI_nn {α : Type} {xs : List α} {i : Int} (h0 : 0 ≤ i) (h1 : i < xs.length) : L2.atI xs i = xs[i.toNat]? := by
  unfold L2.atI
  rw [ixN_nn h0 h1]
  rfl
theorem atI_some {α : Type} {xs : List α} {i : Int} (h0 : 0 ≤ i) (h1 : i < xs.length) : ∃ x, L2.atI xs i = some x ∧ x ∈ xs := by
  rw [atI_nn h0 h1]
  have h : i.toNat < xs.length := by omega
  exact ⟨xs[i.toNat], by simp [h], List.getElem_mem h⟩
theorem atI_map {α β : Type} (f : α → β) (xs : List α) (i : Int) : L2.atI (xs.map f) i = (L2.atI xs i).map f := by
  unfold L2.atI
  rw [List.length_map]
  cases ixN xs.length i with
  | none => rfl
  | some j => show (xs.map f)[j]? = (xs[j]?).map f; rw [List.getElem?_map]
theorem sIx_lit (n d k : Nat) : HT.sIx n d (some (no_index (@OfNat.ofNat Int k instOfNat))) = min k n := HT.sIx_nat n d k
theorem cutD_ll {α : Type} (xs : List α) (a b : Nat) : cutD xs (some (no_index (@OfNat.ofNat Int a instOfNat))) (some (no_index (@OfNat.ofNat Int b instOfNat))) = (xs.drop a).take (b - a) := by
  unfold cutD
  rw [sIx_lit, sIx_lit]
  by_cases h : a ≤ xs.length
  · have e : min a xs.length = a := Nat.min_eq_left h
    rw [e]
    by_cases h2 : b ≤ xs.length
    · have e2 : min b xs.length = b := Nat.min_eq_left h2
      rw [e2]
    · have e2 : min b xs.length = xs.length := Nat.min_eq_right (by omega)
      rw [e2, List.take_of_length_le (by simp), List.take_of_length_le (by simp; omega)]
  · have e : min a xs.length = xs.length := Nat.min_eq_right (by omega)
    rw [e, List.drop_length, List.drop_of_length_le (by omega)]
    simp
theorem cutD_l {α : Type} (xs : List α) (a : Nat) : cutD xs (some (no_index (@OfNat.ofNat Int a instOfNat))) none = xs.drop a := by
  unfold cutD
  rw [sIx_lit, HT.sIx_none]
  by_cases h : a ≤ xs.length
  · have e : min a xs.length = a := Nat.min_eq_left h
    rw [e, List.take_of_length_le (by simp)]
  · have e : min a xs.length = xs.length := Nat.min_eq_right (by omega)
    rw [e, List.drop_length, List.drop_of_length_le (by omega)]
    simp
theorem cutD_u {α : Type} (xs : List α) (b : Nat) : cutD xs none (some (no_index (@OfNat.ofNat Int b instOfNat))) = xs.take b := by
  unfold cutD
  rw [sIx_lit, HT.sIx_none]
  by_cases h : b ≤ xs.length
  · have e : min b xs.length = b := Nat.min_eq_left h
    rw [e]; simp
  · have e : min b xs.length = xs.length := Nat.min_eq_right (by omega)
    rw [e, List.take_of_length_le (by simp), List.take_of_length_le (by omega)]
    simp
theorem cutD_nn {α : Type} (xs : List α) (a b : Nat) : cutD xs (some (a : Int)) (some (b : Int)) = (xs.drop a).take (b - a) := cutD_ll xs a b
theorem cutD_n {α : Type} (xs : List α) (a : Nat) : cutD xs (some (a : Int)) none = xs.drop a := cutD_l xs a
theorem cutD_un {α : Type} (xs : List α) (b : Nat) : cutD xs none (some (b : Int)) = xs.take b := cutD_u xs b
theorem loopD_ind {ok : Mem → Prop} {g : WG} {tb : WS} {E : DEnds} (Inv : List DV → SD → Mem → Prop) (hok : ∀ l δ M, Inv l δ M → ok M) (hnil : ∀ δ M, Inv [] δ M → E.nx δ M)
    (hcons : ∀ x l δ M, Inv (x :: l) δ M → ∀ N : SD → Mem → Prop, (∀ δ' M', Inv l δ' M' → N δ' M') → g x δ fun δ1 => tb { E with nx := N, ct := N, bk := E.nx } δ1 M) : ∀ (items : List DV) (δ : SD) (M : Mem), Inv items δ M → loopD ok g tb E items δ M
  | [], δ, M, h => ⟨hok _ _ _ h, hnil δ M h⟩
  | x :: l, δ, M, h => ⟨hok _ _ _ h, hcons x l δ M h _ fun δ' M' h' => loopD_ind Inv hok hnil hcons l δ' M' h'⟩
theorem list_len {n : Nat} (h : n ≤ 1000000) : n ≤ sizeLine := Nat.le_trans h (by decide)
theorem list_lt {n : Nat} (h : n ≤ 1000000) : n < sizeLine := Nat.lt_of_le_of_lt h (by decide)
theorem primes_at (l : List PyData) (m : Nat) (h : ∀ n < m, (match l[n]? with | some (.int p) => decide (0 < p ∧ p < 2147483648) | _ => false) = true) (hl : l.length = m) {i : Int} (h0 : 0 ≤ i) (h1 : i < m) : ∃ p : Int, L2.atI l i = some (.int p) ∧ 0 < p ∧ p < 2147483648 := by
  rw [atI_nn h0 (by omega)]
  have := h i.toNat (by omega)
  split at this
  · rename_i p e
    have q := of_decide_eq_true this
    exact ⟨p, e, q.1, q.2⟩
  · cases this
end DL
namespace DL
open PySem PySem.Spec L2 RZ
open PyProof.Rows hiding St

theorem ge_bool_int {prog : Program} {w : World} {A : Around} {E Q : Value → Shared → Prop} {s : Shared} (b : Bool) (a : Int) (t : Tok) (h : Q (.bool (decide (a ≤ b2i b))) s) : wpAny (model prog w) A (compareOp .LtE (.int a t) (.bool b)) Q E s :=
  SeqAt.rc_sub_first_or (op := .LtE) (typeIs_int s a t) rfl (by decide) F.sub_bool_int (F.slot_bool_ge : Slot "bool" (cmpInfo .LtE).2.2 _)
    (call_gives F.slot_bool_ge rfl F.entry_int_ge (F.args_int_ge_2 _ _) (show Gives (Builtin.«int.__ge__» ⟨[.bool b, .int a t], []⟩) (.val (Value.bool (decide (a ≤ b2i b)))) from .of_wp fun M A E s Q h => by obtain ⟨hp, g, d, tk, os⟩ := s; wp_walk; exact ⟨_, rfl, h⟩) ⟨nofun, h⟩) (.inl rfl)
theorem lt_bool_int {prog : Program} {w : World} {A : Around} {E Q : Value → Shared → Prop} {s : Shared} (b : Bool) (a : Int) (t : Tok) (h : Q (.bool (decide (b2i b < a))) s) : wpAny (model prog w) A (compareOp .Lt (.bool b) (.int a t)) Q E s :=
  SeqAt.rc_left_or (op := .Lt) rfl (typeIs_int s a t) (by decide) F.sub_int_bool F.slot_bool_lt
    (call_gives F.slot_bool_lt rfl F.entry_int_lt (F.args_int_lt_2 _ _) (show Gives (Builtin.«int.__lt__» ⟨[.bool b, .int a t], []⟩) (.val (Value.bool (decide (b2i b < a)))) from .of_wp fun M A E s Q h => by obtain ⟨hp, g, d, tk, os⟩ := s; wp_walk; exact ⟨_, rfl, h⟩) ⟨nofun, h⟩) (.inl rfl)
def asI : PyData → Option Int
  | .int i => some i
  | .bool b => some (b2i b)
  | _ => none
def bOp (left : Bool) (C : Int → Int → Prop) (g : Int → Int → PyData) : DV → DV → Mem → DQ → Prop
  | .d (.int i), .d (.int j), M, Q => C i j ∧ Q (.d (g i j)) M
  | .d (.bool i), .d (.int j), M, Q => left = true ∧ C (b2i i) j ∧ Q (.d (g (b2i i) j)) M
  | .d (.int i), .d (.bool j), M, Q => left = false ∧ C i (b2i j) ∧ Q (.d (g i (b2i j))) M
  | _, _, M, Q => False
section
variable {X : Cx}
theorem od_boolL {f : Value → Value → Sem Value} {C : Int → Int → Prop} {g : Int → Int → V} {gd : Int → Int → PyData} (h : OpR X f (rI C g)) (hg : ∀ i j H M, RepP X.K H M (g i j) (gd i j))
    (hb : ∀ {pins : List (Addr × Obj)} {σ : St} {s : Shared} {H : Hp} {Q : VK} (i : Bool) (j : Int) (t : Tok), Inv X pins σ H s → C (b2i i) j → Q (g (b2i i) j) H → wpAny (model X.prog X.w) X.A (f (.bool i) (.int j t)) (EP X pins σ Q) X.xe s) : OpD X f (bOp true C gd) := by
  intro pins s σ H x y v u Q I rv ru ⟨dx, dy, M, Qd, R, rx, ry, q, E⟩
  unfold bOp at q
  split at q
  · exact h pins s σ H x y v u Q I rv ru ⟨_, _, RepP.int_inv rx, RepP.int_inv ry, q.1, E (.d _) _ _ _ (Keep.refl _ _) R (hg _ _ _ _) q.2⟩
  · cases RepP.bl_inv rx
    cases RepP.int_inv ry
    cases rv
    obtain ⟨t, rfl⟩ := ru
    exact hb _ _ _ I q.2.1 (E (.d _) _ _ _ (Keep.refl _ _) R (hg _ _ _ _) q.2.2)
  · cases q.1
  · exact q.elim
theorem od_addB : OpD X (binaryOp .Add) (bOp true (fun _ _ => True) fun i j => .int (i + j)) :=
  od_boolL (g := fun i j => .int (i + j)) (opR_imp op_add fun x y H Q ⟨i, j, a, b, _, q⟩ => ⟨i, j, a, b, q⟩) (fun _ _ _ _ => .int _) fun {pins σ s H Q} i j t I _ q => IntBool.add_bool_int ⟨.int _, H, I.tok _, ⟨_, rfl⟩, q⟩
theorem od_subB : OpD X (binaryOp .Sub) (bOp true (fun _ _ => True) fun i j => .int (i - j)) :=
  od_boolL (g := fun i j => .int (i - j)) (opR_imp op_sub fun x y H Q ⟨i, j, a, b, _, q⟩ => ⟨i, j, a, b, q⟩) (fun _ _ _ _ => .int _) fun {pins σ s H Q} i j t I _ q => IntBool.sub_bool_int ⟨.int _, H, I.tok _, ⟨_, rfl⟩, q⟩
theorem od_mulB : OpD X (binaryOp .Mult) (bOp true CMul fun i j => .int (i * j)) :=
  od_boolL (g := fun i j => .int (i * j)) op_mul (fun _ _ _ _ => .int _) fun {pins σ s H Q} i j t I _ q => IntBool.mul_bool_int ⟨.int _, H, I.tok _, ⟨_, rfl⟩, q⟩
theorem od_ltB : OpD X (compareOp .Lt) (bOp true (fun _ _ => True) fun i j => .bool (decide (i < j))) :=
  od_boolL (g := fun i j => .bl (decide (i < j))) (opR_imp op_lt fun x y H Q ⟨i, j, a, b, _, q⟩ => ⟨i, j, a, b, q⟩) (fun _ _ _ _ => .bl _) fun {pins σ s H Q} i j t I _ q => lt_bool_int i j t ⟨.bl _, H, I, rfl, q⟩
theorem od_leB : OpD X (compareOp .LtE) (bOp false (fun _ _ => True) fun i j => .bool (decide (i ≤ j))) := by
  intro pins s σ H x y v u Q I rv ru ⟨dx, dy, M, Qd, R, rx, ry, q, E⟩
  unfold bOp at q
  split at q
  · exact op_le pins s σ H x y v u Q I rv ru ⟨_, _, RepP.int_inv rx, RepP.int_inv ry, E (.d _) _ _ _ (Keep.refl _ _) R (.bl _) q.2⟩
  · cases q.1
  · cases RepP.int_inv rx
    cases RepP.bl_inv ry
    obtain ⟨t, rfl⟩ := rv
    cases ru
    exact ge_bool_int _ _ _ ⟨.bl _, H, I, rfl, E (.d _) _ _ _ (Keep.refl _ _) R (.bl _) q.2.2⟩
  · exact q.elim

def cmpD (f : PyData → PyData → Bool) : DV → DV → Mem → DQ → Prop
  | .d a, .d b, M, Q => PySem.W.alike a b = true ∧ a ≠ .none ∧ a.depth ≤ 60 ∧ Q (.d (.bool (f a b))) M
  | _, _, M, Q => False
theorem od_cmp {op : CmpOp} {f : PyData → PyData → Bool} (hu : X.A.units + 64 < cLine)
    (h : ∀ {prog : Program} {w : World} {A : Around} {E : Value → Shared → Prop} {s : Shared} {a b : Value} {da db : PyData} {as bs : List Addr} {Q : Value → Shared → Prop}, Reads s.heap a da as → Reads s.heap b db bs → PySem.W.alike da db = true → da ≠ .none → A.units + min da.depth db.depth < cLine → Q (.bool (f da db)) s → wpAny (model prog w) A (compareOp op a b) Q E s) :
    OpD X (compareOp op) (cmpD f) := by
  intro pins s σ H x y v u Q I rv ru ⟨dx, dy, M, Qd, R, rx, ry, q, E⟩
  unfold cmpD at q
  split at q
  · obtain ⟨as, h1⟩ := RepP.reads I _ x v rx rv
    obtain ⟨bs, h2⟩ := RepP.reads I _ y u ry ru
    rename_i a b
    refine h h1 h2 q.1 q.2.1 ?_ ⟨.bl _, H, I, rfl, E (.d _) _ _ _ (Keep.refl _ _) R (.bl _) q.2.2.2⟩
    have : min a.depth b.depth ≤ a.depth := Nat.min_le_left _ _
    have := q.2.2.1
    omega
  · exact q.elim
theorem od_ltA (hu : X.A.units + 64 < cLine) : OpD X (compareOp .Lt) (cmpD fun a b => PySem.W.dataLt a b) := od_cmp hu PySem.W.lt_data
theorem od_gtA (hu : X.A.units + 64 < cLine) : OpD X (compareOp .Gt) (cmpD fun a b => PySem.W.dataLt b a) := od_cmp hu PySem.W.gt_data
theorem od_leA (hu : X.A.units + 64 < cLine) : OpD X (compareOp .LtE) (cmpD fun a b => !PySem.W.dataLt b a) := od_cmp hu PySem.W.le_data
theorem od_geA (hu : X.A.units + 64 < cLine) : OpD X (compareOp .GtE) (cmpD fun a b => !PySem.W.dataLt a b) := od_cmp hu PySem.W.ge_data

def sortedL (ds : List PyData) : List PyData := ds.mergeSort (PySem.W.dataLe false fun d => d)
def SortOk (ds : List PyData) : Prop := PySem.W.AllAlike ds ∧ PySem.W.Sortable ds ∧ ∀ d ∈ ds, d.depth ≤ 60
def sortD : List DV → Mem → DQ → Prop
  | [.d (.list xs)], M, Q => SortOk xs ∧ Q (.d (.list (sortedL xs))) M
  | _, M, Q => False
def sortM : List DV → Mem → DQ → Prop
  | [.d (.list xs)], M, Q => SortOk xs ∧ ∀ p, M p = none → Q (.r p) (mupd M p (.lst ((sortedL xs).map .d)))
  | _, M, Q => False
theorem each_reads {pins : List (Addr × Obj)} {σ : St} {H : Hp} {M : Mem} {s : Shared} (I : Inv X pins σ H s) {h' : Heap} (hk : ∀ b o, s.heap.get? b = some o → h'.get? b = some o) : ∀ (ds : List PyData) (vs : List V) (us : List Value), RepA X.K H M vs ds → Vals vs us → PySem.W.EachIs (fun v d => ∃ as, Reads h' v d as) us ds
  | [], _, _, h, r => by cases h; cases r; exact .nil
  | d :: ds, _, _, h, r => by
    cases h with
    | cons h1 h2 =>
      cases r with
      | cons r1 r2 =>
        obtain ⟨as, q⟩ := RepP.reads I d _ _ h1 r1
        exact .cons ⟨as, PyProof.Rows.Reads.keeps hk q⟩ (each_reads I hk ds _ _ h2 r2)
theorem each_rep {K : PySem.W.Frag} {H : Hp} {M : Mem} : ∀ (ds : List PyData) (vs : List V) (us : List Value), RepA K H M vs ds → Vals vs us → PySem.W.EachIs (fun u d => ∃ v, RelV v u ∧ RepP K H M v d) us ds
  | [], _, _, h, r => by cases h; cases r; exact .nil
  | d :: ds, _, _, h, r => by
    cases h with
    | cons h1 h2 =>
      cases r with
      | cons r1 r2 => exact .cons ⟨_, r1, h1⟩ (each_rep ds _ _ h2 r2)
theorem each_back {K : PySem.W.Frag} {H : Hp} {M : Mem} : ∀ {us : List Value} {ds : List PyData}, PySem.W.EachIs (fun u d => ∃ v, RelV v u ∧ RepP K H M v d) us ds → ∃ vs, Vals vs us ∧ RepA K H M vs ds
  | _, _, .nil => ⟨[], .nil, .nil⟩
  | _, _, .cons ⟨v, a, b⟩ t => by
    obtain ⟨vs, p, q⟩ := each_back t
    exact ⟨v :: vs, .cons a p, .cons b q⟩
theorem sorted_run (hu : X.A.units + 64 < cLine) {pins : List (Addr × Obj)} {σ : St} {H : Hp} {M : Mem} {s : Shared} {Q : VK} {a : Addr} {xs : List V} {ds : List PyData} (I : Inv X pins σ H s) (hs : SqL X.K H a xs) (ra : RepA X.K H M xs ds) (ok : SortOk ds)
    (q : ∀ p vs, H p = none → RepA X.K H M vs (sortedL ds) → Q (.ref p) (upd H p (.lst vs))) : wpAny (model X.prog X.w) X.A (call (.builtin "sorted") [.ref a]) (EP X pins σ Q) X.xe s := by
  obtain ⟨its, rv, hl, hz⟩ := I.list hs
  have hz' : its.length ≤ sizeLine := by rw [← rv.length]; exact hz
  have er := each_reads I (h' := PySem.W.sortingHeap (PySem.W.copyHeap s.heap its) (s.heap.objs.size + 1) its) (fun b o e => PySem.W.sorting_copy_old e) ds xs its ra rv
  refine PySem.W.sorted_vals hl.isList (PySem.W.SortsAt.data (s := { s with heap := _ }) er ok.1 ok.2.1 fun d hd => ?_) hz' ?_
  · have := ok.2.2 d hd
    show X.A.units + 1 + 1 + d.depth < cLine
    omega
  · have eo := PySem.W.keyedOut_each (rev := false) (bs := ds) (k := fun d => d) (out := PySem.W.sortVals (PySem.W.dataKind (PySem.W.sortingHeap (PySem.W.copyHeap s.heap its) (s.heap.objs.size + 1) its) ds) false its its) ⟨_, its, by rw [List.map_id']; exact ok.1, by rw [List.map_id'], by rw [List.map_id']; exact er⟩ (each_rep ds xs its ra rv)
    obtain ⟨vs, v1, v2⟩ := each_back eo
    obtain ⟨ep, he'⟩ := PyProof.Rows.sortedAll_at s.heap its (PySem.W.sortVals (PySem.W.dataKind (PySem.W.sortingHeap (PySem.W.copyHeap s.heap its) (s.heap.objs.size + 1) its) ds) false its its).toArray
    have hlen : vs.length ≤ sizeLine := by
      rw [v2.length, List.length_mergeSort, ← ra.length]
      exact hz
    exact ⟨.ref _, upd H (s.heap.objs.size + 1) (.lst vs), I.laid (t' := s.toks) (fun _ _ => PyProof.Rows.sortedAll_old) (Nat.le_succ _) ⟨hlen, _, ep, v1, he'⟩, rfl, q _ vs (I.hok.fresh (Nat.le_succ _)) v2⟩
theorem cd_sorted (hu : X.A.units + 64 < cLine) : CallD X (.builtin "sorted") sortD := by
  intro pins s σ H xs us Q I rs ⟨ds, M, Qd, R, rx, h, E⟩
  unfold sortD at h
  split at h
  · obtain ⟨v, rfl, rv⟩ := one_inv rx
    obtain ⟨a, vs, e1, s1, _, ra⟩ := RepP.lst_inv rv
    subst e1
    rw [Vals.ref1 rs]
    exact sorted_run hu I (SqL.of s1) ra h.1 fun p ws hp hw => E.lst R hw hp h.2
  · exact h.elim
theorem cd_sortedM (hu : X.A.units + 64 < cLine) : CallD X (.builtin "sorted") sortM := by
  intro pins s σ H xs us Q I rs ⟨ds, M, Qd, R, rx, h, E⟩
  unfold sortM at h
  split at h
  · obtain ⟨v, rfl, rv⟩ := one_inv rx
    obtain ⟨a, vs, e1, s1, _, ra⟩ := RepP.lst_inv rv
    subst e1
    rw [Vals.ref1 rs]
    exact sorted_run hu I (SqL.of s1) ra h.1 fun p ws hp hw => E.lstM R hw.toL hp (h.2 p (R.no hp))
  · exact h.elim
end
end DL
namespace HT
open PySem PySem.Spec L2
open PyProof.Rows hiding St
section
variable {prog : Program} {w : World} {A : Around} {E : Value → Shared → Prop} {s : Shared}
theorem adjust_rev (n : Nat) : Builtin.Slice.sliceAdjust none none (-1) (n : Int) = ((n : Int) - 1, -1) := by
  unfold Builtin.Slice.sliceAdjust
  have h1 : ((-1 : Int) < 0) := by omega
  simp only [h1, if_true]
theorem places_rev (n : Nat) : Builtin.Slice.slicePlaces ((n : Int) - 1) (-1) (-1) = n := by
  unfold Builtin.Slice.slicePlaces
  have h1 : ¬ ((-1 : Int) > 0) := by omega
  simp only [h1, if_false]
  have e : (- -1 : Int) = 1 := by decide
  rw [e, Int.ediv_one]
  split <;> omega
theorem filterMap_eq {α β : Type} {f g : α → Option β} : ∀ {l : List α}, (∀ x ∈ l, f x = g x) → l.filterMap f = l.filterMap g
  | [], _ => rfl
  | x :: l, h => by
    rw [List.filterMap_cons, List.filterMap_cons, h x (by simp), filterMap_eq fun y hy => h y (by simp [hy])]
theorem pick_rev (xs : Array Value) : ((List.range xs.size).filterMap fun (m : Nat) => xs[(((xs.size : Int) - 1) + (m : Int) * (-1)).toNat]?).toArray = xs.toList.reverse.toArray := by
  have e : ∀ m ∈ List.range xs.size, xs[(((xs.size : Int) - 1) + (m : Int) * (-1)).toNat]? = xs[xs.size - 1 - m]? := by
    intro m hm
    have := List.mem_range.mp hm
    congr 1
    omega
  rw [filterMap_eq e]
  have := PySem.W.krv_range xs.size
  have e2 : (List.range xs.size).filterMap (fun m => xs[xs.size - 1 - m]?) = ((List.range xs.size).map (fun k => xs.size - 1 - k)).filterMap (xs[·]?) := by
    rw [List.filterMap_map]; rfl
  rw [e2, this, List.filterMap_reverse, PySem.W.krv_all]
theorem sliceApplied_rev {sl : Addr} {vk : Value} {n : Nat} {Q : Int × Int × Nat → Shared → Prop} (hs : s.heap.IsSliceOf sl .none .none vk) (pk : IsPart vk (some (-1)))
    (h : Q ((n : Int) - 1, -1, n) s) : wpAny (model prog w) A (Builtin.Slice.sliceApplied (.ref sl) (pure (n : Int))) Q E s := by
  obtain ⟨os, hos, hcs, hds⟩ := id hs
  unfold Builtin.Slice.sliceApplied Builtin.Slice.sliceFields
  refine wpAny_bind (wpAny_bind (wpAny_field hos hds (x := .none) rfl (wpAny_bind (wpAny_field hos hds (x := .none) rfl (wpAny_bind (wpAny_field hos hds (x := vk) rfl (wpAny_pure ?_)))))))
  refine wpAny_bind (slicePart_ pk ?_)
  show wpAny _ _ (if ((-1 : Int) == 0) = true then _ else _) _ _ s
  rw [if_neg (by decide)]
  refine wpAny_bind (slicePart_none (wpAny_bind (slicePart_none (wpAny_bind (wpAny_pure ?_)))))
  show wpAny _ _ (match Builtin.Slice.sliceAdjust none none (-1) (n : Int) with | (lo, hi) => pure (lo, (-1 : Int), Builtin.Slice.slicePlaces lo hi (-1))) _ _ s
  rw [adjust_rev n]
  show wpAny _ _ (pure (((n : Int) - 1), (-1 : Int), Builtin.Slice.slicePlaces ((n : Int) - 1) (-1) (-1))) _ _ s
  rw [places_rev]
  exact wpAny_pure h
theorem getItem_tuple_rev {t sl : Addr} {items : Array Value} {vk : Value} {Q : Value → Shared → Prop} (ht : IsTup s.heap t items) (hs : s.heap.IsSliceOf sl .none .none vk) (pk : IsPart vk (some (-1)))
    (h : Q (.ref s.heap.objs.size) { s with heap := s.heap.push { cls := .type "tuple", data := .seq items.toList.reverse.toArray } })
    (hsz : items.size ≤ sizeLine) : wpAny (model prog w) A (getItem (.ref t) (.ref sl)) Q E s := by
  have htake : sizeOk (.seq items.toList.reverse.toArray) := by
    show (items.toList.reverse.toArray).size ≤ sizeLine
    simpa using hsz
  obtain ⟨os, hos, hcs, hds⟩ := id hs
  have hTs : s.TypeIs (.ref sl) "slice" := ⟨os, hos, hcs⟩
  unfold getItem
  try with_reducible refine wpAny_holding ?_
  first | refine wpAny_bind (wpAny_pure ?_) | skip
  refine wpAny_bind (wpAny_sequenceKey ht.typeIs (by decide) ?_)
  refine wpAny_bind (wpAny_callSpecial?_slot (name := Str.ofString "__getitem__") ht.typeIs PyProof.Rows.slot_tuple_getitem
    (wpAny_call_entry PyProof.Rows.slot_tuple_getitem ht.typeIs entry_tuple_getitem ?_ (args_tuple_getitem _ _)))
  show wpAny _ _ (Builtin.Tuple.tupleItemsOf (.ref t) >>= _) _ _ s
  refine wpAny_bind (tupleItemsOf_ ht ?_)
  refine wpAny_bind (wpAny_typeOf hTs ?_)
  rw [if_pos (by decide)]
  refine wpAny_bind (sliceApplied_rev hs pk ?_)
  have hno : ¬ ((((items.size : Int) - 1) == 0 && (-1 : Int) == 1 && items.size == items.size) = true) := by
    intro q
    rw [Bool.and_eq_true, Bool.and_eq_true] at q
    exact absurd q.1.2 (by decide)
  show wpAny _ _ (if ((((items.size : Int) - 1) == 0 && (-1 : Int) == 1 && items.size == items.size) = true) then _ else _) _ _ s
  rw [if_neg hno, pick_rev]
  first
    | exact wpAny_bind (m := Builtin.Tuple.tupleExact _) (wpAny_newObj_type (wpAny_pure ⟨_, rfl, wpAny_pure h⟩) htake)
    | exact wpAny_bind (m := Builtin.Tuple.tupleExact _) (wpAny_newObj_type (wpAny_bind (wpAny_pure (wpAny_pure ⟨_, rfl, wpAny_pure h⟩))) htake)
    | exact wpAny_bind (wpAny_bind (m := Builtin.Tuple.tupleExact _) (wpAny_newObj_type (wpAny_pure (wpAny_pure ⟨_, rfl, wpAny_pure h⟩)) htake))
    | exact wpAny_bind (wpAny_bind (m := Builtin.Tuple.tupleExact _) (wpAny_newObj_type (wpAny_pure ⟨_, rfl, wpAny_pure h⟩) htake))
end
end HT
namespace L2
open PySem PySem.Spec
open PyProof.Rows hiding St
def tRevA (K : PySem.W.Frag) (te : TE) : TE := fun σ H Q => te σ H fun x H1 => ∃ a xs, x = .ref a ∧ ((SqL K H1 a xs ∧ ∀ p, H1 p = none → Q (.ref p) (upd H1 p (.lst xs.reverse))) ∨ (SqT K H1 a xs ∧ ∀ p, H1 p = none → Q (.ref p) (upd H1 p (.tup xs.reverse))))
theorem pe_revA {X : Cx} {e : Expr} {te : TE} {k : Nat} {p1 p2 p3 pos : Pos} (he : PE X e te) : PE X (.Subscript e (.Slice none none (some (.UnaryOp .USub (.Constant (.int 1) k p1) p2)) p3) pos) (tRevA X.K te) := by
  refine ⟨fun pins s σ H Q I h => ?_⟩
  refine Subscript_ (thn (he.run pins s σ H _ I h) fun v s1 ⟨x, H1, I1, r1, q1⟩ => ?_)
  obtain ⟨a, xs, ex, q1⟩ := q1
  subst ex
  cases r1
  have hst : PO X (some (.UnaryOp .USub (.Constant (.int 1) k p1) p2)) (tPart (tUn (rU fun i => .int (-i)) (tC (.int 1)))) := po_some (pe_un un_neg pe_int)
  refine wpAny_Slice (thn (po_none.run pins s1 σ H1 (fun o H2 => o = none ∧ H2 = H1) I1 ⟨rfl, rfl⟩) fun vl s2 ⟨l, H2, I2, pl, el, e2⟩ => ?_)
  subst el e2
  refine thn (po_none.run pins s2 σ H2 (fun o H3 => o = none ∧ H3 = H2) I2 ⟨rfl, rfl⟩) fun vu s3 ⟨u, H3, I3, pu, eu, e3⟩ => ?_
  subst eu e3
  refine thn (hst.run pins s3 σ H3 (fun o H4 => o = some (-1) ∧ H4 = H3) I3 ⟨1, rfl, -1, rfl, rfl, rfl⟩) fun vs s4 ⟨o, H4, I4, ps, eo, e4⟩ => ?_
  subst eo e4
  have I5 : Inv X pins σ H4 { s4 with heap := s4.heap.push { cls := .type "slice", data := .fields #[vl, vu, vs] } } := I4.kept (t' := s4.toks) fun b ob q => Heap.get?_push_of_some _ q
  show wpAny (model X.prog X.w) X.A (subscriptTail e (.Slice none none (some (.UnaryOp .USub (.Constant (.int 1) k p1) p2)) p3) (.ref a) (.ref s4.heap.objs.size)) (EP X pins σ Q) X.xe { s4 with heap := s4.heap.push { cls := .type "slice", data := .fields #[vl, vu, vs] } }
  rcases q1 with ⟨hx, q⟩ | ⟨hx, q⟩
  · obtain ⟨its, r, ht, hz⟩ := I5.list hx
    have hlen := r.length
    refine tail_any (ops := [.ref a, .ref s4.heap.objs.size]) ht.isList.typeIs (PySem.slot_list_getitem.lookup) ?_ (by with_unfolding_all rfl)
    refine wpAny_getItem_list_slice ht.isList (Heap.IsSliceOf.new _ vl vu vs) pl pu ps (by decide) ?_ (by rw [List.size_toArray]; omega)
    rw [PySem.W.krv_pick]
    refine ⟨.ref _, _, I5.laid (t' := s4.toks) (o := .lst xs.reverse) (fun b ob q => Heap.get?_push_of_some _ q) (Nat.le_refl _) ?_, rfl, q _ (I5.hok.fresh (Nat.le_refl _))⟩
    exact ⟨by rw [List.length_reverse]; exact hz, _, 0, r.reverse, Heap.get?_push_size _ rfl⟩
  · obtain ⟨its, r, ht, hz⟩ := I5.tuple hx
    have hlen := r.length
    cases pl
    cases pu
    refine tail_any (ops := [.ref a, .ref s4.heap.objs.size]) ht.typeIs (PyProof.Rows.slot_tuple_getitem.lookup) ?_ (by with_unfolding_all rfl)
    refine HT.getItem_tuple_rev ht (Heap.IsSliceOf.new _ _ _ vs) ps ?_ (by rw [List.size_toArray]; omega)
    refine ⟨.ref _, _, I5.laid (t' := s4.toks) (o := .tup xs.reverse) (fun b ob q => Heap.get?_push_of_some _ q) (Nat.le_refl _) ?_, rfl, q _ (I5.hok.fresh (Nat.le_refl _))⟩
    exact ⟨by rw [List.length_reverse]; exact hz, _, r.reverse, IsTup.new _ _⟩
end L2
namespace DL
open PySem PySem.Spec L2 RZ
open PyProof.Rows hiding St
def revD : DV → Mem → DQ → Prop
  | .d (.tuple xs), M, Q => Q (.d (.tuple xs.reverse)) M
  | .d (.list xs), M, Q => Q (.d (.list xs.reverse)) M
  | .r a, M, Q => optD (lstMD M a) fun xs => Q (.d (.list xs.reverse)) M
  | _, _, _ => False
def wRev (we : WE) : WE := fun δ M Q => we δ M fun x M1 => revD x M1 Q
theorem RepA.reverse {K : PySem.W.Frag} {H : Hp} {M : Mem} : ∀ {vs : List V} {ds : List PyData}, RepA K H M vs ds → RepA K H M vs.reverse ds.reverse
  | _, [], h => by cases h; exact .nil
  | _, d :: ds, h => by
    cases h with
    | cons h1 h2 =>
      rw [List.reverse_cons, List.reverse_cons]
      exact h2.reverse.append (.cons h1 .nil)
section
variable {X : Cx} {e : Expr} {we : WE} {pos : Pos}
theorem de_rev {k : Nat} {p1 p2 p3 : Pos} (he : DE X e we) : DE X (.Subscript e (.Slice none none (some (.UnaryOp .USub (.Constant (.int 1) k p1) p2)) p3) pos) (wRev we) :=
  pe_imp (pe_revA he) fun σ H Q ⟨δ, M, Qd, S, R, h, E⟩ => ⟨δ, M, _, S, R, h, fun d M1 v H1 k1 R1 r1 h1 => by
    have E1 := E.step k1
    unfold revD at h1
    split at h1
    · obtain ⟨a, vs, e1, s1, ra⟩ := RepP.tup_inv r1
      exact ⟨a, vs, e1, .inr ⟨s1, fun p hp => E1.tup R1 ra.reverse hp h1⟩⟩
    · obtain ⟨a, vs, e1, s1, _, ra⟩ := RepP.lst_inv r1
      exact ⟨a, vs, e1, .inl ⟨SqL.of s1, fun p hp => E1.lst R1 ra.reverse hp h1⟩⟩
    · rename_i a
      obtain ⟨xs, e, h1⟩ := optD_inv h1
      obtain ⟨vs, hv, ra⟩ := lstMD_inv R1 e
      exact ⟨a, vs, r1, .inl ⟨SqL.of hv, fun p hp => E1.lst R1 ra.reverse hp h1⟩⟩
    · exact h1.elim⟩
def wPar3 (i j l : Nat) (wa : WA) : WS := fun E δ M => wa δ M fun ds M1 => match ds with
  | [d, e, f] => E.nx (((δ.set i (some d)).set j (some e)).set l (some f)) M1
  | _ => False
theorem three_inv {K : PySem.W.Frag} {H : Hp} {M : Mem} {xs : List V} {d e f : DV} (r : RepL K H M xs [d, e, f]) : ∃ v u w, xs = [v, u, w] ∧ Rep K H M v d ∧ Rep K H M u e ∧ Rep K H M w f := by
  cases r with
  | cons a b =>
    obtain ⟨u, w, rfl, c, g⟩ := two_inv b
    exact ⟨_, _, _, rfl, a, c, g⟩
theorem ds_par3 {i j l : Nat} {x y z : Str} {a b c : Expr} {wa : WA} {px py pz pt pos : Pos} {kt k2 pt2} (hc : X.calm = true) (hN : X.N.Nodup) (hi : X.N[i]? = some x) (hj : X.N[j]? = some y) (hl : X.N[l]? = some z) (hij : i ≠ j) (hil : i ≠ l) (hjl : j ≠ l)
    (hx : X.env.scope.names.lookup x = some .local) (hy : X.env.scope.names.lookup y = some .local) (hz : X.env.scope.names.lookup z = some .local) (ha : DA X [a, b, c] wa)
    (hw : swappedStores [.Tuple [.Name x px, .Name y py, .Name z pz] kt pt] (.Tuple [a, b, c] k2 pt2) X.env = pure (some [x, y, z]))
    (hs : swapsWithSole [.Tuple [.Name x px, .Name y py, .Name z pz] kt pt] (.Tuple [a, b, c] k2 pt2) pos.line X.env = pure false := by rfl) :
    DS X (.Assign [.Tuple [.Name x px, .Name y py, .Name z pz] kt pt] (.Tuple [a, b, c] k2 pt2) pos) (wPar3 i j l wa) :=
  ps_imp (ps_par3 hc hN hi hj hl hij hil hjl hx hy hz ha hw hs) fun D σ H ⟨δ, M, E, S, R, h, e1, e2, e3, e4⟩ => ⟨δ, M, _, S, R, h, fun ds M1 vs H1 k1 R1 r1 h1 => by
    split at h1
    · obtain ⟨v, u, w, rfl, rv, ru, rw'⟩ := three_inv r1
      exact ⟨v, u, w, rfl, e1 _ M1 _ H1 k1 R1 ((((S.keep k1).set rv i).set ru j).set rw' l) h1⟩
    · exact h1.elim⟩
def wFrz (i : Nat) (t : WS) : WS := fun E δ M => match δ[i]? with
  | some (some (.r p)) => optD (lstMD M p) fun ys => t E (δ.set i (some (.d (.list ys)))) (mdel M p)
  | _ => t E δ M
theorem mdel_sub {M : Mem} {p : Addr} : ∀ a, M a = none → mdel M p a = none := fun a h => by
  by_cases e : a = p
  · subst e; exact mdel_same
  · rw [mdel_ne e]; exact h
theorem RelM.del {K : PySem.W.Frag} {H : Hp} {M : Mem} {p : Addr} (R : RelM K H M) : RelM K H (mdel M p) := fun a m e => by
  have hne : a ≠ p := by rintro rfl; rw [mdel_same] at e; cases e
  rw [mdel_ne hne] at e
  have q := R a m e
  cases m with
  | lst xs => obtain ⟨vs, a1, a2⟩ := q; exact ⟨vs, a1, RepL.drop mdel_sub a2⟩
  | tup xs => obtain ⟨vs, a1, a2⟩ := q; exact ⟨vs, a1, RepL.drop mdel_sub a2⟩
theorem RepS.drop {K : PySem.W.Frag} {H : Hp} {M M' : Mem} {σ : St} {δ : SD} (S : RepS K H M σ δ) (h : ∀ a, M a = none → M' a = none) : RepS K H M' σ δ := ⟨S.len, fun i d e => let ⟨v, a, b⟩ := S.at_ i d e; ⟨v, a, b.drop h⟩⟩
theorem RepS.setD {K : PySem.W.Frag} {H : Hp} {M : Mem} {σ : St} {δ : SD} (S : RepS K H M σ δ) {i : Nat} {v : V} {d : DV} (hv : σ[i]? = some (some v)) (r : Rep K H M v d) : RepS K H M σ (δ.set i (some d)) := by
  have := S.set r i
  have e : σ.set i (some v) = σ := by
    apply List.ext_getElem?
    intro j
    by_cases z : i = j
    · subst z
      rw [hv]
      exact List.getElem?_set_self (by rcases Nat.lt_or_ge i σ.length with h | h; exact h; rw [List.getElem?_eq_none h] at hv; cases hv)
    · rw [List.getElem?_set_ne z]
  rw [e] at this
  exact this
theorem dss_frz (i : Nat) {sts : List Stmt} {t : WS} (h : DSs X sts t) : DSs X sts (wFrz i t) :=
  pss_imp h fun D σ H ⟨δ, M, E, S, R, h, e1, e2, e3, e4⟩ => by
    unfold wFrz at h
    split at h
    · rename_i p hp
      obtain ⟨ys, e, h⟩ := optD_inv h
      obtain ⟨vs, hv, ra⟩ := lstMD_inv R e
      have kd : Keep H M H (mdel M p) := Keep.sub mdel_sub
      obtain ⟨v, hs, rv⟩ := S.at_ i _ hp
      have rv : v = .ref p := rv
      subst rv
      refine ⟨_, _, E, (S.drop mdel_sub).setD (d := .d (.list ys)) hs (show RepP X.K H (mdel M p) (.ref p) (.list ys) from .lst hv mdel_same (RepA.dropM mdel_sub _ _ ra)), R.del, h, ?_, ?_, ?_, ?_⟩
      · exact fun δ' M' σ' H' k => e1 δ' M' σ' H' (kd.trans k)
      · exact fun d M' v H' k => e2 d M' v H' (kd.trans k)
      · exact fun δ' M' σ' H' k => e3 δ' M' σ' H' (kd.trans k)
      · exact fun δ' M' σ' H' k => e4 δ' M' σ' H' (kd.trans k)
    · exact ⟨δ, M, E, S, R, h, e1, e2, e3, e4⟩
end
def isScalar : PyData → Bool
  | .none | .bool _ | .int _ | .str _ => true
  | _ => false
def viewD (M : Mem) : DV → Option PyData
  | .d x => some x
  | .r a => (lstMD M a).map .list
  | .s _ => none
def viewL (M : Mem) : List DV → Option (List PyData)
  | [] => some []
  | x :: xs => (viewD M x).bind fun y => (viewL M xs).map (y :: ·)
def mem0 : Mem := fun _ => none
theorem view_rep {K : PySem.W.Frag} {H : Hp} {M : Mem} {v : V} {x : DV} {d : PyData} (R : RelM K H M) (r : Rep K H M v x) (h : viewD M x = some d) : RepP K H mem0 v d := by
  cases x with
  | d y => cases h; exact RepP.drop (fun _ _ => rfl) _ _ r
  | r a =>
    obtain ⟨ys, e, rfl⟩ := Option.map_eq_some_iff.mp h
    obtain ⟨vs, hv, ra⟩ := lstMD_inv R e
    have r : v = .ref a := r
    subst r
    exact .lst hv rfl (RepA.dropM (fun _ _ => rfl) _ _ ra)
  | s ns => cases h
theorem view_repL {K : PySem.W.Frag} {H : Hp} {M : Mem} (R : RelM K H M) : ∀ {vs : List V} {xs : List DV} {ds : List PyData}, RepL K H M vs xs → viewL M xs = some ds → RepL K H mem0 vs (ds.map .d)
  | _, [], _, r, h => by cases h; cases r; exact .nil
  | _, x :: xs, _, r, h => by
    cases r with
    | cons r1 r2 =>
      obtain ⟨y, e1, h⟩ := Option.bind_eq_some_iff.mp h
      obtain ⟨ys, e2, rfl⟩ := Option.map_eq_some_iff.mp h
      exact .cons (view_rep R r1 e1) (view_repL R r2 e2)
def spPure (R : List PyData → PyData → Prop) : SpD := fun ds M Q => ∃ xs r, ds = xs.map .d ∧ R xs r ∧ Q (.d r) M
def spView (R : List PyData → PyData → Prop) : SpD := fun ds M Q => ∃ xs r, viewL M ds = some xs ∧ R xs r ∧ isScalar r = true ∧ Q (.d r) M
theorem scalar_rep {K : PySem.W.Frag} {H : Hp} {M M' : Mem} {v : V} {d : PyData} (h : isScalar d = true) (r : RepP K H M v d) : RepP K H M' v d := by
  cases d with
  | none => cases r; exact .non
  | bool b => cases r; exact .bl b
  | int i => cases r; exact .int i
  | str x => cases r; exact .str x
  | list _ => cases h
  | tuple _ => cases h
  | dict _ => cases h
theorem liftF_view {K : PySem.W.Frag} {R : List PyData → PyData → Prop} : ∀ vs H Q E, liftF K (spView R) vs H Q E → liftF K (spPure R) vs H Q E := by
  intro vs H Q E ⟨ds, M, Qd, r, Rm, ⟨xs, y, hv, hR, hs, q⟩, En⟩
  refine ⟨xs.map .d, mem0, fun d M' => d = .d y ∧ M' = mem0, view_repL Rm r hv, (fun a m e => nomatch e), ⟨xs, y, rfl, hR, rfl, rfl⟩, fun d M' v H' k' R' r' q' => ?_⟩
  obtain ⟨rfl, rfl⟩ := q'
  have kk : Keep H M H' M := fun a n o e => ⟨(k' a rfl o e).1, n⟩
  refine En (.d y) M v H' kk (fun a m e => ?_) (scalar_rep hs r') q
  have z := Rm a m e
  refine z.keep kk ?_
  cases m with
  | lst ws => obtain ⟨us, hu, _⟩ := z; rw [hu]; exact (k' a rfl _ hu).1
  | tup ws => obtain ⟨us, hu, _⟩ := z; rw [hu]; exact (k' a rfl _ hu).1
theorem Callee.imp {P : Program} {w : World} {K : PySem.W.Frag} {mg : Str → Option Value} {base : Heap} {x : Str} {k : Nat} {ps : List Str} {sp sp' : SpD} (c : Callee P w K mg base x k ps sp) (h : ∀ vs H Q E, liftF K sp' vs H Q E → liftF K sp vs H Q E) : Callee P w K mg base x k ps sp' := by
  obtain ⟨f, fd, a, b, d, F⟩ := c.ex
  exact ⟨f, fd, a, b, d, F.imp h⟩
theorem Callee.view {P : Program} {w : World} {K : PySem.W.Frag} {mg : Str → Option Value} {base : Heap} {x : Str} {k : Nat} {ps : List Str} {R : List PyData → PyData → Prop} (c : Callee P w K mg base x k ps (spPure R)) : Callee P w K mg base x k ps (spView R) := c.imp liftF_view
end DL
namespace DL
open PySem PySem.Spec L2 RZ
open PyProof.Rows hiding St

mutual
def wt : PyData → Nat
  | .none => 4
  | .bool _ => 5
  | .int i => i.natAbs.log2 + 4
  | .str x => (reprText x).length
  | .list xs => wtAll xs + 3
  | .tuple xs => wtAll xs + 3
  | .dict _ => 2
def wtAll : List PyData → Nat
  | [] => 0
  | x :: xs => wt x + 2 + wtAll xs
end
mutual
def fits (B : Nat) : PyData → Bool
  | .none => true
  | .bool _ => true
  | .int i => decide (i.natAbs.log2 < B)
  | .str x => PyData.strOk x
  | .list xs => fitsAll B xs
  | .tuple xs => fitsAll B xs
  | .dict kvs => kvs.isEmpty
def fitsAll (B : Nat) : List PyData → Bool
  | [] => true
  | x :: xs => fits B x && fitsAll B xs
end
structure Nice (W D B : Nat) (x : PyData) : Prop where
  w : wt x ≤ W
  d : x.depth ≤ D
  f : fits B x = true
structure NiceL (W D B : Nat) (xs : List PyData) : Prop where
  w : wtAll xs ≤ W
  d : PyData.depthAll xs ≤ D
  f : fitsAll B xs = true
theorem wtAll_append : ∀ xs ys : List PyData, wtAll (xs ++ ys) = wtAll xs + wtAll ys
  | [], ys => by simp [wtAll]
  | x :: xs, ys => by
    simp only [List.cons_append, wtAll, wtAll_append xs ys]
    omega
theorem fitsAll_iff {B : Nat} : ∀ {xs : List PyData}, fitsAll B xs = true ↔ ∀ x ∈ xs, fits B x = true
  | [] => by simp [fitsAll]
  | x :: xs => by simp [fitsAll, fitsAll_iff (xs := xs)]
theorem depthAll_iff {D : Nat} : ∀ {xs : List PyData}, PyData.depthAll xs ≤ D ↔ ∀ x ∈ xs, x.depth ≤ D
  | [] => by simp [PyData.depthAll]
  | x :: xs => by
    simp only [PyData.depthAll, List.mem_cons, forall_eq_or_imp]
    rw [← depthAll_iff (xs := xs)]
    omega
theorem wtAll_mem : ∀ {xs : List PyData} {x : PyData}, x ∈ xs → wt x + 2 ≤ wtAll xs
  | y :: ys, x, h => by
    simp only [wtAll]
    rcases List.mem_cons.mp h with rfl | h
    · omega
    · have := wtAll_mem h
      omega
theorem NiceL.mem {W D B : Nat} {xs : List PyData} (h : NiceL W D B xs) {x : PyData} (hx : x ∈ xs) : Nice W D B x :=
  ⟨by have := wtAll_mem hx; have := h.w; omega, depthAll_iff.mp h.d x hx, fitsAll_iff.mp h.f x hx⟩
theorem fits_mono {B C : Nat} (h : B ≤ C) : ∀ x : PyData, fits B x = true → fits C x = true := by
  intro x
  refine PyData.rec (motive_1 := fun x => fits B x = true → fits C x = true) (motive_2 := fun xs => fitsAll B xs = true → fitsAll C xs = true) (motive_3 := fun _ => True) (motive_4 := fun _ => True) ?_ ?_ ?_ ?_ ?_ ?_ ?_ ?_ ?_ ?_ ?_ ?_ x
  · intro _; rfl
  · intro b _; rfl
  · intro i q; simp only [fits, decide_eq_true_eq] at q ⊢; omega
  · intro s q; exact q
  · intro xs ih q; simp only [fits] at q ⊢; exact ih q
  · intro xs ih q; simp only [fits] at q ⊢; exact ih q
  · intro k _ q; exact q
  · intro _; rfl
  · intro y ys h1 h2 q
    simp only [fitsAll, Bool.and_eq_true] at q ⊢
    exact ⟨h1 q.1, h2 q.2⟩
  · trivial
  · intro _ _ _ _; trivial
  · intro _ _ _ _; trivial
theorem fitsAll_mono {B C : Nat} (h : B ≤ C) {xs : List PyData} (q : fitsAll B xs = true) : fitsAll C xs = true := fitsAll_iff.mpr fun x hx => fits_mono h x (fitsAll_iff.mp q x hx)
theorem Nice.mono {W D B W' D' B' : Nat} {x : PyData} (h : Nice W D B x) (hw : W ≤ W' := by omega) (hd : D ≤ D' := by omega) (hb : B ≤ B' := by omega) : Nice W' D' B' x := ⟨Nat.le_trans h.w hw, Nat.le_trans h.d hd, fits_mono hb x h.f⟩
theorem NiceL.mono {W D B W' D' B' : Nat} {x : List PyData} (h : NiceL W D B x) (hw : W ≤ W' := by omega) (hd : D ≤ D' := by omega) (hb : B ≤ B' := by omega) : NiceL W' D' B' x := ⟨Nat.le_trans h.w hw, Nat.le_trans h.d hd, fitsAll_mono hb h.f⟩
theorem nice_list {W D B : Nat} {xs : List PyData} (h : NiceL W D B xs) : Nice (W + 3) (D + 1) B (.list xs) := ⟨by simp only [wt]; have := h.w; omega, by simp only [PyData.depth]; have := h.d; omega, by simp only [fits]; exact h.f⟩
theorem nice_tuple {W D B : Nat} {xs : List PyData} (h : NiceL W D B xs) : Nice (W + 3) (D + 1) B (.tuple xs) := ⟨by simp only [wt]; have := h.w; omega, by simp only [PyData.depth]; have := h.d; omega, by simp only [fits]; exact h.f⟩
theorem nice_list_inv {W D B : Nat} {xs : List PyData} (h : Nice W D B (.list xs)) : 3 ≤ W ∧ 1 ≤ D ∧ NiceL (W - 3) (D - 1) B xs := by
  have h1 := h.w
  have h2 := h.d
  have h3 := h.f
  simp only [wt, PyData.depth, fits] at h1 h2 h3
  exact ⟨by omega, by omega, by omega, by omega, h3⟩
theorem nice_tuple_inv {W D B : Nat} {xs : List PyData} (h : Nice W D B (.tuple xs)) : 3 ≤ W ∧ 1 ≤ D ∧ NiceL (W - 3) (D - 1) B xs := by
  have h1 := h.w
  have h2 := h.d
  have h3 := h.f
  simp only [wt, PyData.depth, fits] at h1 h2 h3
  exact ⟨by omega, by omega, by omega, by omega, h3⟩
theorem niceL_nil {W D B : Nat} : NiceL W D B [] := ⟨by simp [wtAll], by simp [PyData.depthAll], rfl⟩
theorem niceL_cons {W V D B : Nat} {x : PyData} {xs : List PyData} (h : Nice W D B x) (t : NiceL V D B xs) : NiceL (W + 2 + V) D B (x :: xs) :=
  ⟨by simp only [wtAll]; have := h.w; have := t.w; omega, by simp only [PyData.depthAll]; have := h.d; have := t.d; omega, by simp only [fitsAll]; rw [h.f, t.f]; rfl⟩
theorem niceL_append {W V D B : Nat} {xs ys : List PyData} (h : NiceL W D B xs) (t : NiceL V D B ys) : NiceL (W + V) D B (xs ++ ys) :=
  ⟨by rw [wtAll_append]; have := h.w; have := t.w; omega, depthAll_iff.mpr fun x hx => by
    rcases List.mem_append.mp hx with q | q
    · exact depthAll_iff.mp h.d x q
    · exact depthAll_iff.mp t.d x q, fitsAll_iff.mpr fun x hx => by
    rcases List.mem_append.mp hx with q | q
    · exact fitsAll_iff.mp h.f x q
    · exact fitsAll_iff.mp t.f x q⟩
theorem wtAll_sub {xs ys : List PyData} (h : xs.Sublist ys) : wtAll xs ≤ wtAll ys := by
  induction h with
  | slnil => exact Nat.le_refl _
  | cons a _ ih => simp only [wtAll]; omega
  | cons_cons a _ ih => simp only [wtAll]; omega
theorem NiceL.sub {W D B : Nat} {xs ys : List PyData} (h : NiceL W D B ys) (s : xs.Sublist ys) : NiceL W D B xs :=
  ⟨Nat.le_trans (wtAll_sub s) h.w, depthAll_iff.mpr fun x hx => depthAll_iff.mp h.d x (s.subset hx), fitsAll_iff.mpr fun x hx => fitsAll_iff.mp h.f x (s.subset hx)⟩
theorem wtAll_perm {xs ys : List PyData} (h : xs.Perm ys) : wtAll xs = wtAll ys := by
  induction h with
  | nil => rfl
  | cons a _ ih => simp only [wtAll, ih]
  | swap a b l => simp only [wtAll]; omega
  | trans _ _ h1 h2 => exact h1.trans h2
theorem NiceL.perm {W D B : Nat} {xs ys : List PyData} (h : NiceL W D B ys) (s : xs.Perm ys) : NiceL W D B xs :=
  ⟨by rw [wtAll_perm s]; exact h.w, depthAll_iff.mpr fun x hx => depthAll_iff.mp h.d x (s.mem_iff.mp hx), fitsAll_iff.mpr fun x hx => fitsAll_iff.mp h.f x (s.mem_iff.mp hx)⟩
theorem NiceL.rev {W D B : Nat} {xs : List PyData} (h : NiceL W D B xs) : NiceL W D B xs.reverse := h.perm (List.reverse_perm xs)
theorem NiceL.set {W V D B : Nat} {xs : List PyData} {x : PyData} (h : NiceL W D B xs) (t : Nice V D B x) (i : Nat) : NiceL (W + V + 2) D B (xs.set i x) := by
  have e : xs.set i x = xs ∨ xs.set i x = xs.take i ++ x :: xs.drop (i + 1) := by
    by_cases hi : i < xs.length
    · right; rw [List.set_eq_take_append_cons_drop, if_pos hi]
    · left; exact List.set_eq_of_length_le (by omega)
  rcases e with e | e
  · rw [e]; exact h.mono
  · rw [e]
    refine ⟨?_, ?_, ?_⟩
    · rw [wtAll_append]
      have h1 := wtAll_append (xs.take i) (xs.drop i)
      rw [List.take_append_drop] at h1
      have h2 := wtAll_sub (List.drop_sublist_drop_left xs (show i ≤ i + 1 by omega))
      have := h.w
      have := t.w
      simp only [wtAll]
      omega
    · refine depthAll_iff.mpr fun y hy => ?_
      rcases List.mem_append.mp hy with q | q
      · exact depthAll_iff.mp h.d y (List.mem_of_mem_take q)
      · rcases List.mem_cons.mp q with rfl | q
        · exact t.d
        · exact depthAll_iff.mp h.d y (List.mem_of_mem_drop q)
    · refine fitsAll_iff.mpr fun y hy => ?_
      rcases List.mem_append.mp hy with q | q
      · exact fitsAll_iff.mp h.f y (List.mem_of_mem_take q)
      · rcases List.mem_cons.mp q with rfl | q
        · exact t.f
        · exact fitsAll_iff.mp h.f y (List.mem_of_mem_drop q)
theorem nice_int {B : Nat} {i : Int} (h : i.natAbs.log2 < B) (W D : Nat) (hw : B + 4 ≤ W := by omega) : Nice W D B (.int i) := ⟨by simp only [wt]; omega, Nat.zero_le _, by simp only [fits]; exact decide_eq_true h⟩
theorem nice_bool {W D B : Nat} {b : Bool} (hw : 5 ≤ W := by omega) : Nice W D B (.bool b) := ⟨by simp only [wt]; omega, Nat.zero_le _, rfl⟩
theorem nice_none {W D B : Nat} (hw : 4 ≤ W := by omega) : Nice W D B .none := ⟨by simp only [wt]; omega, Nat.zero_le _, rfl⟩
theorem nice_mk {W D B : Nat} {x : PyData} (h : (decide (wt x ≤ W) && decide (x.depth ≤ D) && fits B x) = true) : Nice W D B x := by
  simp only [Bool.and_eq_true, decide_eq_true_eq] at h
  exact ⟨h.1.1, h.1.2, h.2⟩

theorem join_le (ts : List Str) : (Str.join ", " ts).length ≤ piled ts := by
  cases ts with
  | nil => exact Nat.zero_le _
  | cons t r => have := join_length_add (t :: r) (by simp); omega
theorem textFrom_le : ∀ (ts : List Str) (k : Nat) (acc : Str), (textFrom k acc ts).length ≤ acc.length + piled ts
  | [], _, _ => by show _ ≤ _ + 0; exact Nat.le_refl _
  | t :: ts, k, acc => by
    have ih := textFrom_le ts (k + 1) (acc ++ (if k > 0 then ", " else "" : String) ++ t)
    show (textFrom (k + 1) _ ts).length ≤ _
    have e : (acc ++ (if k > 0 then ", " else "" : String) ++ t).length = acc.length + (if k > 0 then 2 else 0) + t.length := by
      rw [strLen_append, strLen_append]
      split <;> rfl
    have e2 : piled (t :: ts) = t.length + 2 + piled ts := by simp [piled]
    have e3 : (if k > 0 then 2 else 0 : Nat) ≤ 2 := by split <;> omega
    omega
mutual
theorem shown_le {B : Nat} : ∀ x : PyData, fits B x = true → x.shown.length ≤ wt x
  | .none, _ => by simp only [PyData.shown, wt]; decide
  | .bool b, _ => by cases b <;> simp only [PyData.shown, wt] <;> decide
  | .int i, _ => by
    simp only [PyData.shown, wt]
    have := int_text_length_le (a := i) (k := i.natAbs.log2 + 1) (by omega) (by omega)
    have e := PySem.ofString_length (toString i)
    show (Str.ofString (toString i)).length ≤ _
    omega
  | .str x, _ => by simp only [PyData.shown, wt]; exact Nat.le_refl _
  | .list xs, h => by
    simp only [PyData.shown, wt]
    have ih := shownAll_le xs (by simpa only [fits] using h)
    have e : (listText (PyData.shownAll xs)).length = (textFrom 0 "[" (PyData.shownAll xs)).length + 1 := by
      show (textFrom 0 "[" _ ++ "]").length = _
      rw [strLen_append]; rfl
    have := textFrom_le (PyData.shownAll xs) 0 "["
    have e2 : ("[" : Str).length = 1 := rfl
    omega
  | .tuple xs, h => by
    simp only [PyData.shown, wt]
    have ih := shownAll_le xs (by simpa only [fits] using h)
    have := join_le (PyData.shownAll xs)
    unfold tupleText
    rw [strLen_append, strLen_append]
    have e1 : ("(" : Str).length = 1 := rfl
    have e2 : (Str.ofString (if (PyData.shownAll xs).length == 1 then ",)" else ")")).length ≤ 2 := by split <;> decide
    have e3 : (Str.ofString (if (PyData.shownAll xs).length == 1 then ",)" else ")") : Str) = ((if (PyData.shownAll xs).length == 1 then ",)" else ")" : String) : Str) := rfl
    omega
  | .dict kvs, h => by
    have e : kvs = [] := by simpa [fits] using h
    subst e
    simp only [PyData.shown, wt, PyData.shownKv]
    decide
theorem shownAll_le {B : Nat} : ∀ xs : List PyData, fitsAll B xs = true → piled (PyData.shownAll xs) ≤ wtAll xs
  | [], _ => Nat.le_refl _
  | x :: xs, h => by
    simp only [fitsAll, Bool.and_eq_true] at h
    have h1 := shown_le x h.1
    have h2 := shownAll_le xs h.2
    have e2 : piled (PyData.shownAll (x :: xs)) = x.shown.length + 2 + piled (PyData.shownAll xs) := by simp [piled, PyData.shownAll]
    simp only [wtAll]
    omega
end
mutual
theorem showable_fits : ∀ x : PyData, fits 1920 x = true → x.showable = true
  | .none, _ => rfl
  | .bool _, _ => rfl
  | .int i, h => by simpa [fits, PyData.showable] using h
  | .str _, _ => rfl
  | .list xs, h => by simp only [PyData.showable]; exact showableAll_fits xs (by simpa only [fits] using h)
  | .tuple xs, h => by simp only [PyData.showable]; exact showableAll_fits xs (by simpa only [fits] using h)
  | .dict kvs, h => by
    have e : kvs = [] := by simpa [fits] using h
    subst e
    rfl
theorem showableAll_fits : ∀ xs : List PyData, fitsAll 1920 xs = true → PyData.showableAll xs = true
  | [], _ => rfl
  | x :: xs, h => by
    simp only [fitsAll, Bool.and_eq_true] at h
    simp only [PyData.showableAll, Bool.and_eq_true]
    exact ⟨showable_fits x h.1, showableAll_fits xs h.2⟩
end
theorem Nice.showy {W D B : Nat} {x : PyData} (h : Nice W D B x) (hw : W ≤ 1000000 := by omega) (hd : D ≤ 60 := by omega) (hb : B ≤ 1920 := by omega) : Showy x :=
  ⟨showable_fits x (fits_mono hb x h.f), Nat.le_trans h.d hd, Nat.le_trans (shown_le x h.f) (Nat.le_trans h.w (list_len hw))⟩
mutual
def noDict : PyData → Bool
  | .list xs => noDictAll xs
  | .tuple xs => noDictAll xs
  | .dict _ => false
  | _ => true
def noDictAll : List PyData → Bool
  | [] => true
  | x :: xs => noDict x && noDictAll xs
end
end DL
namespace DL
open PySem PySem.Spec L2 RZ
open PyProof.Rows hiding St

theorem eqOk_int {i j : Int} : eqOk (.int i) (.int j) = true := rfl
theorem eqOk_bool {i j : Bool} : eqOk (.bool i) (.bool j) = true := rfl
theorem eqOk_ib {i : Int} {j : Bool} : eqOk (.int i) (.bool j) = true := rfl
theorem eqOk_bi {i : Bool} {j : Int} : eqOk (.bool i) (.int j) = true := rfl
theorem eqOk_str {i j : Str} : eqOk (.str i) (.str j) = true := rfl
theorem eqv_int {i j : Int} : PyData.eqv (.int i) (.int j) = (i == j) := by simp [PyData.eqv]
theorem eqv_bool {i j : Bool} : PyData.eqv (.bool i) (.bool j) = (i == j) := by simp [PyData.eqv]
theorem eqv_str {i j : Str} : PyData.eqv (.str i) (.str j) = (i == j) := by simp [PyData.eqv]
theorem shaped_bool {b : Bool} : SeqAt.shaped (.bool b) = true := rfl
theorem shaped_int {b : Int} : SeqAt.shaped (.int b) = true := rfl
theorem shaped_none : SeqAt.shaped .none = true := rfl
theorem shaped_bools (bs : List Bool) : SeqAt.shaped (.list (bs.map .bool)) = true := by
  have h1 : ∀ bs : List Bool, PyData.canLayAll0 (bs.map .bool) = true := by
    intro bs
    induction bs with
    | nil => rfl
    | cons b bs ih => simp only [List.map_cons, PyData.canLayAll0, PyData.canLay0, ih]; rfl
  have h2 : ∀ bs : List Bool, PyData.depthAll (bs.map .bool) = 0 := by
    intro bs
    induction bs with
    | nil => rfl
    | cons b bs ih => simp only [List.map_cons, PyData.depthAll, PyData.depth, ih]; rfl
  unfold SeqAt.shaped
  simp only [PyData.canLay0, PyData.depth, h1, h2]
  rfl
theorem any_false (bs : List Bool) : ((bs.map PyData.bool).any fun y => PyData.eqv y (.bool false)) = !bs.all (fun b => b) := by
  induction bs with
  | nil => rfl
  | cons b bs ih =>
    simp only [List.map_cons, List.any_cons, List.all_cons, ih, eqv_bool]
    cases b <;> rfl
theorem shaped_of_fits {B W D : Nat} {x : PyData} (h : Nice W D B x) (hn : noDict x = true) (hd : D ≤ 64) : SeqAt.shaped x = true := by
  have key : ∀ x : PyData, fits B x = true → noDict x = true → PyData.canLay0 x = true := by
    intro x
    refine PyData.rec (motive_1 := fun x => fits B x = true → noDict x = true → PyData.canLay0 x = true) (motive_2 := fun xs => fitsAll B xs = true → noDictAll xs = true → PyData.canLayAll0 xs = true) (motive_3 := fun _ => True) (motive_4 := fun _ => True) ?_ ?_ ?_ ?_ ?_ ?_ ?_ ?_ ?_ ?_ ?_ ?_ x
    · intro _ _; rfl
    · intro b _ _; rfl
    · intro i _ _; rfl
    · intro s q _; simpa only [fits, PyData.canLay0] using q
    · intro xs ih q p; simp only [fits, noDict, PyData.canLay0] at q p ⊢; exact ih q p
    · intro xs ih q p; simp only [fits, noDict, PyData.canLay0] at q p ⊢; exact ih q p
    · intro k _ q p; cases p
    · intro _ _; rfl
    · intro y ys h1 h2 q p
      simp only [fitsAll, noDictAll, PyData.canLayAll0, Bool.and_eq_true] at q p ⊢
      exact ⟨h1 q.1 p.1, h2 q.2 p.2⟩
    · trivial
    · intro _ _ _ _; trivial
    · intro _ _ _ _; trivial
  unfold SeqAt.shaped
  rw [key x h.f hn, Bool.true_and]
  exact decide_eq_true (Nat.le_trans h.d hd)

theorem liftChain {K : PySem.W.Frag} {rd rd' : R2D} {wa wb wc : WE} {σ : St} {H : Hp} {Q : VK} (h : lift K (wChain rd rd' wa wb wc) σ H Q) : tChain (rD K rd) (rD K rd') (lift K wa) (lift K wb) (lift K wc) σ H Q := by
  obtain ⟨δ, M, Qd, S, R, h, E⟩ := h
  refine ⟨δ, M, _, S, R, h, fun d M1 v H1 k1 R1 r1 h1 => ?_⟩
  refine ⟨δ, M1, _, S.keep k1, R1, h1, fun e M2 u H2 k2 R2 r2 h2 => ?_⟩
  refine ⟨d, e, M2, _, R2, r1.keep k2, r2, h2, fun z M3 w3 H3 k3 R3 r3 h3 => ?_⟩
  split at h3
  · rename_i k
    refine ⟨k, RepP.bl_inv r3, ?_⟩
    by_cases hk : k = true
    · rw [if_pos hk] at h3 ⊢
      refine ⟨δ, M3, _, S.keep ((k1.trans k2).trans k3), R3, h3, fun f M4 w4 H4 k4 R4 r4 h4 => ?_⟩
      exact ⟨e, f, M4, _, R4, (r2.keep k3).keep k4, r4, h4, E.step (((k1.trans k2).trans k3).trans k4)⟩
    · rw [if_neg hk] at h3 ⊢
      exact E (.d _) _ _ _ ((k1.trans k2).trans k3) R3 (.bl _) h3
  · exact h3.elim
theorem dt_chain {X : Cx} {a b c : Expr} {wa wb wc : WE} {pos : Pos} {op op' : CmpOp} {rd rd' : R2D} (ho : OpD X (compareOp op) rd) (ho' : OpD X (compareOp op') rd') (ha : DE X a wa) (hb : DE X b wb) (hc : DE X c wc)
    (hm : lastMarks [op, op'] [b, c] = false := by with_unfolding_all rfl) : DT X (.Compare a [op, op'] [b, c] pos) (wB (wChain rd rd' wa wb wc)) :=
  pt_imp (pt_chain ho ho' ha hb hc hm) fun σ H Q q => by
    have q' := liftB q
    exact liftChain (Q := fun x H' => ∃ k, x = .bl k ∧ Q k H') q'
theorem mupd_comm {M : Mem} {a b : Addr} {o u : MO} (h : a ≠ b) : mupd (mupd M a o) b u = mupd (mupd M b u) a o := by
  funext c
  by_cases e1 : c = b
  · subst e1; rw [mupd_same, mupd_ne (Ne.symm h), mupd_same]
  · rw [mupd_ne e1]
    by_cases e2 : c = a
    · subst e2; rw [mupd_same, mupd_same]
    · rw [mupd_ne e2, mupd_ne e2, mupd_ne e1]
theorem ne_of_mem {M : Mem} {a b : Addr} {o : MO} (h : M a = some o) (n : M b = none) : b ≠ a := by rintro rfl; rw [h] at n; cases n
section
variable {ws : WI} {g : WG} {tt : WT} {te : WE} {vs : List Nat} {δ : SD} {M : Mem} {Q : DQ}
theorem lc_map (items : List DV) (f : DV → PyData) (hs : ∀ R : List DV → (Mem → Prop) → Mem → Prop, R items (fun _ => True) M → ws δ M R) (hz : items.length ≤ sizeLine)
    (hb : ∀ x ∈ items, ∀ M' : Mem, (∀ a o, M a = some o → M' a = some o) → ∀ Q' : DQ, Q' (.d (f x)) M' → g x (wipeD δ vs) fun δ1 => te δ1 M' Q') (hq : Q (.d (.list (items.map f))) M) : wLc finF ws g wYes te vs δ M Q := by
  unfold wLc
  refine hs _ fun D hD => ?_
  have key : ∀ (l acc : List DV), acc.length + l.length ≤ sizeLine → (∀ x ∈ l, x ∈ items) → finF Q D (acc ++ l.map fun x => .d (f x)) M → compD (fun _ => True) g wYes te (wipeD δ vs) D (finF Q D) l acc M := by
    intro l
    induction l with
    | nil => intro acc _ _ h; exact ⟨trivial, by simpa using h⟩
    | cons x xs ih =>
      intro acc hz hm h
      refine ⟨trivial, ?_⟩
      show g x (wipeD δ vs) fun δ1 => te δ1 (mupd M D (.lst acc)) fun y M3 => M3 D = some (.lst acc) ∧ acc.length < sizeLine ∧ compD _ g wYes te (wipeD δ vs) D (finF Q D) xs (acc ++ [y]) (mdel M3 D)
      refine hb x (hm x (by simp)) (mupd M D (.lst acc)) (fun a o e => ?_) (fun y M3 => M3 D = some (.lst acc) ∧ acc.length < sizeLine ∧ compD (fun _ => True) g wYes te (wipeD δ vs) D (finF Q D) xs (acc ++ [y]) (mdel M3 D)) ⟨mupd_same, by simp at hz; omega, ?_⟩
      · rw [mupd_ne]
        · exact e
        · rintro rfl; rw [hD] at e; cases e
      · rw [mdel_mupd hD]
        exact ih (acc ++ [.d (f x)]) (by simp at hz ⊢; omega) (fun y hy => hm y (by simp [hy])) (by simpa using h)
  refine key items [] (by simpa using hz) (fun _ h => h) ?_
  unfold finF
  rw [List.nil_append, allD_mapF]
  exact hq
theorem lc_bools (items : List DV) (f : DV → Bool) (hs : ∀ R : List DV → (Mem → Prop) → Mem → Prop, R items (fun _ => True) M → ws δ M R) (hz : items.length ≤ sizeLine)
    (hb : ∀ x ∈ items, ∀ M' : Mem, (∀ a o, M a = some o → M' a = some o) → ∀ Q' : DQ, Q' (.d (.bool (f x))) M' → g x (wipeD δ vs) fun δ1 => te δ1 M' Q') (hq : Q (.d (.list ((items.map f).map .bool))) M) : wLc finF ws g wYes te vs δ M Q :=
  lc_map items (fun x => .bool (f x)) hs hz hb (by rw [List.map_map] at hq; exact hq)
theorem lc_filter (items : List DV) (p : DV → Bool) (f : DV → PyData) (hs : ∀ R : List DV → (Mem → Prop) → Mem → Prop, R items (fun _ => True) M → ws δ M R) (hz : items.length ≤ sizeLine)
    (hb : ∀ x ∈ items, ∀ M' : Mem, (∀ a o, M a = some o → M' a = some o) → ∀ Q' : Bool → SD → Mem → Prop, (∀ δ1, (∀ Q2 : DQ, p x = true → Q2 (.d (f x)) M' → te δ1 M' Q2) → Q' (p x) δ1 M') → g x (wipeD δ vs) fun δ1 => tt δ1 M' fun b M2 => Q' b δ1 M2)
    (hq : Q (.d (.list ((items.filter p).map f))) M) : wLc finF ws g tt te vs δ M Q := by
  unfold wLc
  refine hs _ fun D hD => ?_
  have key : ∀ (l acc : List DV), acc.length + l.length ≤ sizeLine → (∀ x ∈ l, x ∈ items) → finF Q D (acc ++ (l.filter p).map fun x => .d (f x)) M → compD (fun _ => True) g tt te (wipeD δ vs) D (finF Q D) l acc M := by
    intro l
    induction l with
    | nil => intro acc _ _ h; exact ⟨trivial, by simpa using h⟩
    | cons x xs ih =>
      intro acc hz hm h
      refine ⟨trivial, ?_⟩
      refine hb x (hm x (by simp)) (mupd M D (.lst acc)) (fun a o e => ?_) (fun b δ1 M2 => if b = true then te δ1 M2 fun y M3 => M3 D = some (.lst acc) ∧ acc.length < sizeLine ∧ compD (fun _ => True) g tt te (wipeD δ vs) D (finF Q D) xs (acc ++ [y]) (mdel M3 D)
        else M2 D = some (.lst acc) ∧ compD (fun _ => True) g tt te (wipeD δ vs) D (finF Q D) xs acc (mdel M2 D)) fun δ1 he => ?_
      · rw [mupd_ne]
        · exact e
        · rintro rfl; rw [hD] at e; cases e
      · by_cases hp : p x = true
        · rw [if_pos hp]
          refine he _ hp ⟨mupd_same, by simp at hz; omega, ?_⟩
          rw [mdel_mupd hD]
          refine ih (acc ++ [.d (f x)]) (by simp at hz ⊢; omega) (fun y hy => hm y (by simp [hy])) ?_
          rw [List.filter_cons_of_pos hp] at h
          simpa using h
        · rw [if_neg hp]
          refine ⟨mupd_same, ?_⟩
          rw [mdel_mupd hD]
          refine ih acc (by simp at hz; omega) (fun y hy => hm y (by simp [hy])) ?_
          rw [List.filter_cons_of_neg hp] at h
          exact h
  refine key items [] (by simpa using hz) (fun _ h => h) ?_
  unfold finF
  rw [List.nil_append, allD_mapF]
  exact hq
theorem lc2_map {ws1 : WI} {g1 : WG} {vs1 : List Nat} (items : List DV) (sub : DV → List DV) (f : DV → DV → PyData) (hs : ∀ R : List DV → (Mem → Prop) → Mem → Prop, R items (fun _ => True) M → ws δ M R) (hz : (items.flatMap sub).length ≤ sizeLine)
    (hb : ∀ x ∈ items, ∀ K : SD → Prop, (∀ δ1, (∀ M' : Mem, (∀ a o, M a = some o → M' a = some o) → ∀ R : List DV → (Mem → Prop) → Mem → Prop, R (sub x) (fun _ => True) M' → ws1 δ1 M' R) →
      (∀ y ∈ sub x, ∀ M' : Mem, (∀ a o, M a = some o → M' a = some o) → ∀ Q' : DQ, Q' (.d (f x y)) M' → g1 y (wipeD δ1 vs1) fun δ2 => te δ2 M' Q') → K δ1) → g x (wipeD δ vs) K)
    (hq : Q (.d (.list (items.flatMap fun x => (sub x).map (f x)))) M) : wLc2 finF ws g wYes ws1 g1 wYes te vs vs1 δ M Q := by
  unfold wLc2
  refine hs _ fun D hD => ?_
  have fr : ∀ (acc : List DV) (a : Addr) (o : MO), M a = some o → mupd M D (.lst acc) a = some o := fun acc a o e => by
    rw [mupd_ne]
    · exact e
    · rintro rfl; rw [hD] at e; cases e
  have inner : ∀ (x : DV) (δ1 : SD) (fn : List DV → Mem → Prop) (l acc : List DV), acc.length + l.length ≤ sizeLine → (∀ y ∈ l, ∀ M' : Mem, (∀ a o, M a = some o → M' a = some o) → ∀ Q' : DQ, Q' (.d (f x y)) M' → g1 y (wipeD δ1 vs1) fun δ2 => te δ2 M' Q') → fn (acc ++ l.map fun y => .d (f x y)) M → compD (fun _ => True) g1 wYes te (wipeD δ1 vs1) D fn l acc M := by
    intro x δ1 fn l
    induction l with
    | nil => intro acc _ _ h; exact ⟨trivial, by simpa using h⟩
    | cons y ys ih =>
      intro acc hz hm h
      refine ⟨trivial, ?_⟩
      refine hm y (by simp) (mupd M D (.lst acc)) (fr acc) (fun y M3 => M3 D = some (.lst acc) ∧ acc.length < sizeLine ∧ compD (fun _ => True) g1 wYes te (wipeD δ1 vs1) D fn ys (acc ++ [y]) (mdel M3 D)) ⟨mupd_same, by simp at hz; omega, ?_⟩
      rw [mdel_mupd hD]
      exact ih (acc ++ [.d (f x y)]) (by simp at hz ⊢; omega) (fun y hy => hm y (by simp [hy])) (by simpa using h)
  have key : ∀ (l acc : List DV), acc.length + (l.flatMap sub).length ≤ sizeLine → (∀ x ∈ l, x ∈ items) → finF Q D (acc ++ (l.flatMap fun x => (sub x).map (f x)).map .d) M → wLc2.comp2 (fun _ => True) g wYes ws1 g1 wYes te (wipeD δ vs) vs1 D (finF Q D) l acc M := by
    intro l
    induction l with
    | nil => intro acc _ _ h; exact ⟨trivial, by simpa using h⟩
    | cons x xs ih =>
      intro acc hz hm h
      rw [List.flatMap_cons, List.length_append] at hz
      refine ⟨trivial, ?_⟩
      refine hb x (hm x (by simp)) _ fun δ1 h1 h2 => ?_
      refine (show ∀ P : Bool → Mem → Prop, P true (mupd M D (.lst acc)) → wYes δ1 (mupd M D (.lst acc)) P from fun P h => h) _ ?_
      rw [if_pos rfl]
      refine h1 _ (fr acc) _ ⟨mupd_same, ?_⟩
      rw [mdel_mupd hD]
      refine inner x δ1 _ (sub x) acc (by omega) h2 ?_
      refine ih _ (by rw [List.length_append, List.length_map]; omega) (fun y hy => hm y (by simp [hy])) ?_
      rw [List.flatMap_cons, List.map_append, List.map_map] at h
      rw [List.append_assoc]
      exact h
  refine key items [] (by simpa using hz) (fun _ h => h) ?_
  unfold finF
  rw [List.nil_append, allD_map]
  exact hq
theorem lc_ind (items : List DV) (Inv : List DV → List PyData → Mem → Prop) (hs : ∀ R : List DV → (Mem → Prop) → Mem → Prop, R items (fun _ => True) M → ws δ M R) (h0 : Inv items [] M)
    (hb : ∀ x l acc M' D, M' D = none → Inv (x :: l) acc M' → acc.length < sizeLine ∧ ∀ N : DQ, (∀ z M4, M4 D = none → Inv l (acc ++ [z]) M4 → N (.d z) (mupd M4 D (.lst (acc.map .d)))) → g x (wipeD δ vs) fun δ1 => te δ1 (mupd M' D (.lst (acc.map .d))) N)
    (hq : ∀ acc M', Inv [] acc M' → Q (.d (.list acc)) M') : wLc finF ws g wYes te vs δ M Q := by
  unfold wLc
  refine hs _ fun D hD => ?_
  have key : ∀ (l : List DV) (acc : List PyData) (M' : Mem), M' D = none → Inv l acc M' → compD (fun _ => True) g wYes te (wipeD δ vs) D (finF Q D) l (acc.map .d) M' := by
    intro l
    induction l with
    | nil =>
      intro acc M' _ h
      refine ⟨trivial, ?_⟩
      unfold finF
      rw [allD_map]
      exact hq acc M' h
    | cons x xs ih =>
      intro acc M' hD' h
      refine ⟨trivial, ?_⟩
      obtain ⟨hl, h⟩ := hb x xs acc M' D hD' h
      refine h _ fun z M4 e3 e4 => ?_
      refine ⟨mupd_same, by simpa using hl, ?_⟩
      rw [mdel_mupd e3]
      have := ih (acc ++ [z]) M4 e3 e4
      simpa using this
  exact key items [] M hD h0
end
end DL
namespace DL
open PySem PySem.Spec L2 RZ
open PyProof.Rows hiding St
theorem iOp_e1  (C : Int → Int → Prop) (g : Int → Int → PyData) {M Q i j} : iOp C g (.d (.int i)) (.d (.int j)) M Q = (C i j ∧ Q (.d (g i j)) M) := rfl
theorem iOp0_e1  (g : Int → Int → PyData) {M Q i j} : iOp0 g (.d (.int i)) (.d (.int j)) M Q = (Q (.d (g i j)) M) := rfl
theorem addD_e1  {M Q i j} : addD  (.d (.int i)) (.d (.int j)) M Q = (Q (.d (.int (i + j))) M) := rfl
theorem addD_e2  {M Q i j} : addD  (.d (.str i)) (.d (.str j)) M Q = (i.length + j.length ≤ sizeLine ∧ Q (.d (.str (i ++ j))) M) := rfl
theorem addD_e3  {M Q xs ys} : addD  (.d (.tuple xs)) (.d (.tuple ys)) M Q = (xs.length + ys.length ≤ sizeLine ∧ Q (.d (.tuple (xs ++ ys))) M) := rfl
theorem addD_e4  {M Q xs ys} : addD  (.d (.list xs)) (.d (.list ys)) M Q = (xs.length + ys.length ≤ sizeLine ∧ Q (.d (.list (xs ++ ys))) M) := rfl
theorem addD_e5  {M Q a ys} : addD  (.r a) (.d (.list ys)) M Q = (optD (lstMD M a) fun xs => xs.length + ys.length ≤ sizeLine ∧ Q (.d (.list (xs ++ ys))) M) := rfl
theorem addD_e6  {M Q b xs} : addD  (.d (.list xs)) (.r b) M Q = (optD (lstMD M b) fun ys => xs.length + ys.length ≤ sizeLine ∧ Q (.d (.list (xs ++ ys))) M) := rfl
theorem addD_e7  {M Q a b} : addD  (.r a) (.r b) M Q = (optD (lstMD M a) fun xs => optD (lstMD M b) fun ys => xs.length + ys.length ≤ sizeLine ∧ Q (.d (.list (xs ++ ys))) M) := rfl
theorem eqD_e1  (neg : Bool) {M Q a b} : eqD neg (.d a) (.d b) M Q = (eqOk a b = true ∧ Q (.d (.bool (if neg then !PyData.eqv a b else PyData.eqv a b))) M) := rfl
theorem inD_e1  (neg : Bool) {M Q a bs} : inD neg (.d a) (.d (.tuple bs)) M Q = (SeqAt.shaped a = true ∧ SeqAt.shaped (.tuple bs) = true ∧ Q (.d (.bool (if neg then !bs.any fun y => PyData.eqv y a else bs.any fun y => PyData.eqv y a))) M) := rfl
theorem inD_e2  (neg : Bool) {M Q a bs} : inD neg (.d a) (.d (.list bs)) M Q = (SeqAt.shaped a = true ∧ SeqAt.shaped (.list bs) = true ∧ Q (.d (.bool (if neg then !bs.any fun y => PyData.eqv y a else bs.any fun y => PyData.eqv y a))) M) := rfl
theorem isND_e1  (neg : Bool) {M Q a} : isND neg (.d a) (.d .none) M Q = (Q (.d (.bool (if neg then !isNone a else isNone a))) M) := rfl
theorem isND_e2 (neg : Bool) {M Q a} : isND neg (.r a) (.d .none) M Q = (Q (.d (.bool neg)) M) := rfl
theorem ixD_e1  {M Q i xs} : ixD  (.d (.tuple xs)) (.d (.int i)) M Q = (optD (L2.atI xs i) fun v => Q (.d v) M) := rfl
theorem ixD_e2  {M Q i xs} : ixD  (.d (.list xs)) (.d (.int i)) M Q = (optD (L2.atI xs i) fun v => Q (.d v) M) := rfl
theorem ixD_e3  {M Q i z} : ixD  (.d (.str z)) (.d (.int i)) M Q = (z.length ≤ sizeLine ∧ optD (L2.atI z.cps.toList i) fun c => Q (.d (.str ⟨#[c]⟩)) M) := rfl
theorem ixD_e4  {M Q a i} : ixD  (.r a) (.d (.int i)) M Q = (optD (M a) fun o => optD (L2.atI (moL o) i) fun v => Q v M) := rfl
theorem slD_e1  {M Q hi lo xs} : slD  (.d (.tuple xs)) lo hi M Q = (Q (.d (.tuple (cutD xs lo hi))) M) := rfl
theorem slD_e2  {M Q hi lo xs} : slD  (.d (.list xs)) lo hi M Q = (Q (.d (.list (cutD xs lo hi))) M) := rfl
theorem slD_e3  {M Q hi lo ns} : slD  (.s ns) lo hi M Q = (Q (.d (.list ((cutD ns lo hi).map .int))) M) := rfl
theorem slD_e4  {M Q a hi lo} : slD  (.r a) lo hi M Q = (optD (lstMD M a) fun xs => Q (.d (.list (cutD xs lo hi))) M) := rfl
theorem lenD_e1  {M Q z} : lenD  [.d (.str z)] M Q = (z.length ≤ sizeLine ∧ Q (.d (.int z.length)) M) := rfl
theorem lenD_e2  {M Q xs} : lenD  [.d (.tuple xs)] M Q = (Q (.d (.int xs.length)) M) := rfl
theorem lenD_e3  {M Q xs} : lenD  [.d (.list xs)] M Q = (Q (.d (.int xs.length)) M) := rfl
theorem lenD_e4  {M Q a} : lenD  [.r a] M Q = (optD (M a) fun o => Q (.d (.int (moL o).length)) M) := rfl
theorem listD_e1  {M Q xs} : listD  [.d (.list xs)] M Q = (Q (.d (.list xs)) M) := rfl
theorem listD_e2  {M Q xs} : listD  [.d (.tuple xs)] M Q = (Q (.d (.list xs)) M) := rfl
theorem listD_e3  {M Q a} : listD  [.r a] M Q = (optD (lstMD M a) fun xs => Q (.d (.list xs)) M) := rfl
theorem listM_e1  {M Q xs} : listM  [.d (.list xs)] M Q = (∀ p, M p = none → Q (.r p) (mupd M p (.lst (xs.map .d)))) := rfl
theorem listM_e2  {M Q xs} : listM  [.d (.tuple xs)] M Q = (∀ p, M p = none → Q (.r p) (mupd M p (.lst (xs.map .d)))) := rfl
theorem listM_e3  {M Q a} : listM  [.r a] M Q = (optD (lstMD M a) fun xs => ∀ p, M p = none → Q (.r p) (mupd M p (.lst (xs.map .d)))) := rfl
theorem tupleD_e1  {M Q xs} : tupleD  [.d (.list xs)] M Q = (Q (.d (.tuple xs)) M) := rfl
theorem tupleD_e2  {M Q xs} : tupleD  [.d (.tuple xs)] M Q = (Q (.d (.tuple xs)) M) := rfl
theorem tupleD_e3  {M Q a} : tupleD  [.r a] M Q = (optD (lstMD M a) fun ys => Q (.d (.tuple ys)) M) := rfl
theorem intD_e1  {M Q i} : intD  [.d (.int i)] M Q = (Q (.d (.int i)) M) := rfl
theorem allQ_e1  (f : List Bool → Bool) {M Q xs} : allQ f [.d (.list xs)] M Q = (optD (allB xs) fun bs => Q (.d (.bool (f bs))) M) := rfl
theorem appD_e1  {M Q a d} : appD  (.r a) [d] M Q = ((match M a with
    | some (.lst xs) => xs.length < sizeLine ∧ Q (.d .none) (mupd M a (.lst (xs ++ [d])))
    | _ => False)) := rfl
theorem extD_e1  {M Q a ys} : extD  (.r a) [.d (.list ys)] M Q = ((match M a with
    | some (.lst xs) => xs.length + ys.length ≤ sizeLine ∧ Q (.d .none) (mupd M a (.lst (xs ++ ys.map .d)))
    | _ => False)) := rfl
theorem seqD_e1  {M Q xs} : seqD  (.d (.list xs)) M Q = (Q (xs.map .d) (fun _ => True) M) := rfl
theorem seqD_e2  {M Q xs} : seqD  (.d (.tuple xs)) M Q = (Q (xs.map .d) (fun _ => True) M) := rfl
theorem seqD_e3  {M Q a} : seqD  (.r a) M Q = ((match M a with
    | some (.lst xs) => Q xs (fun M' => M' a = some (.lst xs)) M
    | _ => False)) := rfl
theorem reprD_e1  {M Q x} : reprD  [.d x] M Q = (Showy x ∧ Q (.d (.str x.shown)) M) := rfl
theorem bOp_e1  (left : Bool) (C : Int → Int → Prop) (g : Int → Int → PyData) {M Q i j} : bOp left C g (.d (.int i)) (.d (.int j)) M Q = (C i j ∧ Q (.d (g i j)) M) := rfl
theorem bOp_e2  (left : Bool) (C : Int → Int → Prop) (g : Int → Int → PyData) {M Q i j} : bOp left C g (.d (.bool i)) (.d (.int j)) M Q = (left = true ∧ C (b2i i) j ∧ Q (.d (g (b2i i) j)) M) := rfl
theorem bOp_e3  (left : Bool) (C : Int → Int → Prop) (g : Int → Int → PyData) {M Q i j} : bOp left C g (.d (.int i)) (.d (.bool j)) M Q = (left = false ∧ C i (b2i j) ∧ Q (.d (g i (b2i j))) M) := rfl
theorem cmpD_e1  (f : PyData → PyData → Bool) {M Q a b} : cmpD f (.d a) (.d b) M Q = (PySem.W.alike a b = true ∧ a ≠ .none ∧ a.depth ≤ 60 ∧ Q (.d (.bool (f a b))) M) := rfl
theorem sortD_e1  {M Q xs} : sortD  [.d (.list xs)] M Q = (SortOk xs ∧ Q (.d (.list (sortedL xs))) M) := rfl
theorem sortM_e1  {M Q xs} : sortM  [.d (.list xs)] M Q = (SortOk xs ∧ ∀ p, M p = none → Q (.r p) (mupd M p (.lst ((sortedL xs).map .d)))) := rfl
theorem revD_e1  {M Q xs} : revD  (.d (.tuple xs)) M Q = (Q (.d (.tuple xs.reverse)) M) := rfl
theorem revD_e2  {M Q xs} : revD  (.d (.list xs)) M Q = (Q (.d (.list xs.reverse)) M) := rfl
theorem revD_e3  {M Q a} : revD  (.r a) M Q = (optD (lstMD M a) fun xs => Q (.d (.list xs.reverse)) M) := rfl
theorem optD_e1 {α : Type} {x : α} {k : α → Prop} : optD (some x) k = k x := rfl
theorem isTy_int_none : isTy .int (.none ) = false := rfl
theorem isTy_int_bool {b} : isTy .int (.bool b) = true := rfl
theorem isTy_int_int {i} : isTy .int (.int i) = true := rfl
theorem isTy_int_str {s} : isTy .int (.str s) = false := rfl
theorem isTy_int_list {xs} : isTy .int (.list xs) = false := rfl
theorem isTy_int_tuple {xs} : isTy .int (.tuple xs) = false := rfl
theorem isTy_int_dict {kvs} : isTy .int (.dict kvs) = false := rfl
theorem isTy_bool_none : isTy .bool (.none ) = false := rfl
theorem isTy_bool_bool {b} : isTy .bool (.bool b) = true := rfl
theorem isTy_bool_int {i} : isTy .bool (.int i) = false := rfl
theorem isTy_bool_str {s} : isTy .bool (.str s) = false := rfl
theorem isTy_bool_list {xs} : isTy .bool (.list xs) = false := rfl
theorem isTy_bool_tuple {xs} : isTy .bool (.tuple xs) = false := rfl
theorem isTy_bool_dict {kvs} : isTy .bool (.dict kvs) = false := rfl
theorem isTy_str_none : isTy .str (.none ) = false := rfl
theorem isTy_str_bool {b} : isTy .str (.bool b) = false := rfl
theorem isTy_str_int {i} : isTy .str (.int i) = false := rfl
theorem isTy_str_str {s} : isTy .str (.str s) = true := rfl
theorem isTy_str_list {xs} : isTy .str (.list xs) = false := rfl
theorem isTy_str_tuple {xs} : isTy .str (.tuple xs) = false := rfl
theorem isTy_str_dict {kvs} : isTy .str (.dict kvs) = false := rfl
theorem isTy_list_none : isTy .list (.none ) = false := rfl
theorem isTy_list_bool {b} : isTy .list (.bool b) = false := rfl
theorem isTy_list_int {i} : isTy .list (.int i) = false := rfl
theorem isTy_list_str {s} : isTy .list (.str s) = false := rfl
theorem isTy_list_list {xs} : isTy .list (.list xs) = true := rfl
theorem isTy_list_tuple {xs} : isTy .list (.tuple xs) = false := rfl
theorem isTy_list_dict {kvs} : isTy .list (.dict kvs) = false := rfl
theorem isTy_tuple_none : isTy .tuple (.none ) = false := rfl
theorem isTy_tuple_bool {b} : isTy .tuple (.bool b) = false := rfl
theorem isTy_tuple_int {i} : isTy .tuple (.int i) = false := rfl
theorem isTy_tuple_str {s} : isTy .tuple (.str s) = false := rfl
theorem isTy_tuple_list {xs} : isTy .tuple (.list xs) = false := rfl
theorem isTy_tuple_tuple {xs} : isTy .tuple (.tuple xs) = true := rfl
theorem isTy_tuple_dict {kvs} : isTy .tuple (.dict kvs) = false := rfl
theorem isTy_dict_none : isTy .dict (.none ) = false := rfl
theorem isTy_dict_bool {b} : isTy .dict (.bool b) = false := rfl
theorem isTy_dict_int {i} : isTy .dict (.int i) = false := rfl
theorem isTy_dict_str {s} : isTy .dict (.str s) = false := rfl
theorem isTy_dict_list {xs} : isTy .dict (.list xs) = false := rfl
theorem isTy_dict_tuple {xs} : isTy .dict (.tuple xs) = false := rfl
theorem isTy_dict_dict {kvs} : isTy .dict (.dict kvs) = true := rfl
theorem isTyM_int_lst {xs} : isTyM .int (.lst xs) = false := rfl
theorem isTyM_int_tup {xs} : isTyM .int (.tup xs) = false := rfl
theorem isTyM_bool_lst {xs} : isTyM .bool (.lst xs) = false := rfl
theorem isTyM_bool_tup {xs} : isTyM .bool (.tup xs) = false := rfl
theorem isTyM_str_lst {xs} : isTyM .str (.lst xs) = false := rfl
theorem isTyM_str_tup {xs} : isTyM .str (.tup xs) = false := rfl
theorem isTyM_list_lst {xs} : isTyM .list (.lst xs) = true := rfl
theorem isTyM_list_tup {xs} : isTyM .list (.tup xs) = false := rfl
theorem isTyM_tuple_lst {xs} : isTyM .tuple (.lst xs) = false := rfl
theorem isTyM_tuple_tup {xs} : isTyM .tuple (.tup xs) = true := rfl
theorem isTyM_dict_lst {xs} : isTyM .dict (.lst xs) = false := rfl
theorem isTyM_dict_tup {xs} : isTyM .dict (.tup xs) = false := rfl
theorem moL_e1 {xs} : moL (.lst xs) = xs := rfl
theorem moL_e2 {xs} : moL (.tup xs) = xs := rfl
end DL
namespace DL
open PySem PySem.Spec L2 RZ
open PyProof.Rows hiding St
theorem rngD_length (lo : Int) (n : Nat) : (rngD lo n).length = n := by simp [rngD]
theorem rngD_get (lo : Int) (n i : Nat) (h : i < n) : (rngD lo n)[i]? = some (.d (.int (lo + i))) := by simp [rngD, h]
theorem rng_step {lo : Int} {n i : Nat} {x : DV} {l : List DV} (h : x :: l = (rngD lo n).drop i) : i < n ∧ x = .d (.int (lo + i)) ∧ l = (rngD lo n).drop (i + 1) := by
  have hi : i < n := by
    rcases Nat.lt_or_ge i n with q | q
    · exact q
    · rw [List.drop_of_length_le (by rw [rngD_length]; exact q)] at h; cases h
  rw [drop_get (rngD_get lo n i hi)] at h
  obtain ⟨rfl, rfl⟩ := List.cons.inj h
  exact ⟨hi, rfl, rfl⟩
theorem rng_nil {lo : Int} {n i : Nat} (h : [] = (rngD lo n).drop i) : n ≤ i := by
  have := congrArg List.length h
  simp [rngD_length] at this
  omega
theorem list_step {α : Type} {xs : List α} {i : Nat} {f : α → DV} {x : DV} {l : List DV} (h : x :: l = (xs.drop i).map f) : ∃ y, xs[i]? = some y ∧ i < xs.length ∧ x = f y ∧ l = (xs.drop (i + 1)).map f := by
  have hi : i < xs.length := by
    rcases Nat.lt_or_ge i xs.length with q | q
    · exact q
    · rw [List.drop_of_length_le q] at h; cases h
  have hg : xs[i]? = some xs[i] := List.getElem?_eq_getElem hi
  rw [drop_get hg, List.map_cons] at h
  obtain ⟨rfl, rfl⟩ := List.cons.inj h
  exact ⟨_, hg, hi, rfl, rfl⟩
theorem list_nil {α : Type} {xs : List α} {i : Nat} {f : α → DV} (h : [] = (xs.drop i).map f) : xs.length ≤ i := by
  have := congrArg List.length h
  simp at this
  omega
theorem ite_both {α : Type} {c : Bool} {a b : α} {P : α → Prop} (h1 : P a) (h2 : P b) : if c = true then P a else P b := by split <;> assumption
theorem items_step {x : DV} {l : List DV} {xs : List PyData} (h : x :: l = xs.map .d) : ∃ y ys, xs = y :: ys ∧ x = .d y ∧ l = ys.map .d := by
  cases xs with
  | nil => cases h
  | cons y ys =>
    obtain ⟨rfl, rfl⟩ := List.cons.inj h
    exact ⟨y, ys, rfl, rfl, rfl⟩
theorem viewD_new {M : Mem} {p : Addr} {xs : List PyData} : viewD (mupd M p (.lst (xs.map .d))) (.r p) = some (.list xs) := by
  show (lstMD _ p).map PyData.list = _
  unfold lstMD
  rw [mupd_same]
  show (allD (xs.map .d)).map PyData.list = _
  rw [allD_map]
  rfl
theorem viewD_at {M : Mem} {p : Addr} {xs : List PyData} (h : M p = some (.lst (xs.map .d))) : viewD M (.r p) = some (.list xs) := by
  show (lstMD _ p).map PyData.list = _
  unfold lstMD
  rw [h]
  show (allD (xs.map .d)).map PyData.list = _
  rw [allD_map]
  rfl
section
variable {ws : WI} {g : WG} {tt : WT} {te : WE} {vs : List Nat} {δ : SD} {M : Mem} {Q : DQ}
theorem lc_indT (items : List DV) (Inv : List DV → List PyData → Mem → Prop) (hs : ∀ R : List DV → (Mem → Prop) → Mem → Prop, R items (fun _ => True) M → ws δ M R) (h0 : Inv items [] M)
    (hb : ∀ x l acc M' D, M' D = none → Inv (x :: l) acc M' → acc.length < sizeLine ∧ ∀ (N : DQ) (Z : Mem → Prop), (∀ z M4, M4 D = none → Inv l (acc ++ [z]) M4 → N (.d z) (mupd M4 D (.lst (acc.map .d)))) → (∀ M4, M4 D = none → Inv l acc M4 → Z (mupd M4 D (.lst (acc.map .d)))) →
      g x (wipeD δ vs) fun δ1 => tt δ1 (mupd M' D (.lst (acc.map .d))) fun b M2 => if b = true then te δ1 M2 N else Z M2)
    (hq : ∀ acc M', Inv [] acc M' → Q (.d (.list acc)) M') : wLc finF ws g tt te vs δ M Q := by
  unfold wLc
  refine hs _ fun D hD => ?_
  have key : ∀ (l : List DV) (acc : List PyData) (M' : Mem), M' D = none → Inv l acc M' → compD (fun _ => True) g tt te (wipeD δ vs) D (finF Q D) l (acc.map .d) M' := by
    intro l
    induction l with
    | nil =>
      intro acc M' _ h
      refine ⟨trivial, ?_⟩
      unfold finF
      rw [allD_map]
      exact hq acc M' h
    | cons x xs ih =>
      intro acc M' hD' h
      refine ⟨trivial, ?_⟩
      obtain ⟨hl, h⟩ := hb x xs acc M' D hD' h
      refine h (fun y M3 => M3 D = some (.lst (acc.map .d)) ∧ (acc.map DV.d).length < sizeLine ∧ compD (fun _ => True) g tt te (wipeD δ vs) D (finF Q D) xs (acc.map .d ++ [y]) (mdel M3 D)) (fun M2 => M2 D = some (.lst (acc.map .d)) ∧ compD (fun _ => True) g tt te (wipeD δ vs) D (finF Q D) xs (acc.map .d) (mdel M2 D)) (fun z M4 e3 e4 => ?_) (fun M4 e3 e4 => ?_)
      · refine ⟨mupd_same, by simpa using hl, ?_⟩
        rw [mdel_mupd e3]
        have := ih (acc ++ [z]) M4 e3 e4
        simpa using this
      · refine ⟨mupd_same, ?_⟩
        rw [mdel_mupd e3]
        exact ih acc M4 e3 e4
  exact key items [] M hD h0
end
end DL
namespace RZ
open PySem
section
theorem typeCall_zip_strict (a b c : Value) : checkTypeCall "zip" ⟨[a, b], [(Str.ofString "strict", c)]⟩ = pure () := by kernel_rfl
theorem newCall_zip_strict (a b c : Value) : checkBuiltinCall "zip.__new__" ⟨[.type "zip", a, b], [(Str.ofString "strict", c)]⟩ = pure () := by kernel_rfl
theorem args_object_init_strict (obj a b c : Value) : argsOk "object.__init__" ⟨[obj, a, b], [(Str.ofString "strict", c)]⟩ := by unfold argsOk; kernel_rfl
theorem meets_zipT_strict (l1 l2 : Addr) (xs ys : Array Value) :
    Meets (Builtin.«zip.__new__» ⟨[.type "zip", .ref l1, .ref l2], [(Str.ofString "strict", .bool false)]⟩) (fun _ R s => s.heap.IsTuple l1 xs ∧ s.heap.IsTuple l2 ys ∧
      R (.ok (.ret (.ref (zipTH4 s.heap l1 l2).objs.size))) { s with heap := zipTH5 s.heap l1 l2 }) :=
  .of_wp fun prog w A R s h => by
    obtain ⟨hp, g, d, tk, os⟩ := s; obtain ⟨hl1, hl2, h⟩ := h
    have hsub := sub_zip
    have hL1 : Heap.IsTuple (Shared.heap ⟨hp, g, d, tk, os⟩) l1 xs := hl1
    have hL2 : Heap.IsTuple (Shared.heap ⟨hp.push { cls := .type "tuple_iterator", data := .fields #[.ref l1, .int 0 0] }, g, d, tk, os⟩) l2 ys := Heap.IsTuple.push hl2 _
    have e2 : (Str.ofString "strict" != ("strict" : Str)) = false := by decide +kernel
    wp_walk using wpAny_pyIter_tuple hL1, wpAny_pyIter_tuple hL2
    exact ⟨_, rfl, h⟩
end
section
variable {prog : Program} {w : World} {A : Around} {E : Value → Shared → Prop} {s : Shared}
theorem call_zipT_strict {l1 l2 : Addr} {xs ys : Array Value} {Q : Value → Shared → Prop} (hl1 : s.heap.IsTuple l1 xs) (hl2 : s.heap.IsTuple l2 ys)
    (h : ∀ h', IsZip h' (s.heap.objs.size + 4) (s.heap.objs.size + 2) (s.heap.objs.size + 3) .none → IsPair h' (s.heap.objs.size + 2) (.ref s.heap.objs.size) (.ref (s.heap.objs.size + 1)) →
      IsPair h' (s.heap.objs.size + 3) .none .none → h'.IsTupleIter s.heap.objs.size l1 0 → h'.IsTupleIter (s.heap.objs.size + 1) l2 0 → h'.objs.size = s.heap.objs.size + 5 →
      (∀ c o, s.heap.get? c = some o → h'.get? c = some o) → Q (.ref (s.heap.objs.size + 4)) { s with heap := h' }) :
    wpAny (model prog w) A (call (.type "zip") [.ref l1, .ref l2] [(Str.ofString "strict", .bool false)]) Q E s := by
  refine callType_newKw F.called_zip (by decide) (typeCall_zip_strict _ _ _) (newCall_zip_strict _ _ _) (fun obj => args_object_init_strict obj _ _ _) F.entry_zip_new
    (meets_zipT_strict l1 l2 xs ys) ⟨hl1, hl2, ?_⟩
  have z1 : (zipTH1 s.heap l1).objs.size = s.heap.objs.size + 1 := Heap.size_push ..
  have z2 : (zipTH2 s.heap l1 l2).objs.size = s.heap.objs.size + 2 := by rw [Heap.size_push, z1]
  have z3 : (zipTH3 s.heap l1 l2).objs.size = s.heap.objs.size + 3 := by rw [Heap.size_push, z2]
  have z4 : (zipTH4 s.heap l1 l2).objs.size = s.heap.objs.size + 4 := by rw [Heap.size_push, z3]
  have z5 : (zipTH5 s.heap l1 l2).objs.size = s.heap.objs.size + 5 := by rw [Heap.size_push, z4]
  have g5 : (zipTH5 s.heap l1 l2).get? (zipTH4 s.heap l1 l2).objs.size = some _ := Heap.get?_push_size _ rfl
  have g4 : (zipTH5 s.heap l1 l2).get? (zipTH3 s.heap l1 l2).objs.size = some _ := Heap.get?_push_of_some _ (Heap.get?_push_size _ rfl)
  have g3 : (zipTH5 s.heap l1 l2).get? (zipTH2 s.heap l1 l2).objs.size = some _ := Heap.get?_push_of_some _ (Heap.get?_push_of_some _ (Heap.get?_push_size _ rfl))
  have g2 : (zipTH5 s.heap l1 l2).get? (zipTH1 s.heap l1).objs.size = some _ := Heap.get?_push_of_some _ (Heap.get?_push_of_some _ (Heap.get?_push_of_some _ (Heap.get?_push_size _ rfl)))
  have g1 : (zipTH5 s.heap l1 l2).get? s.heap.objs.size = some _ := Heap.get?_push_of_some _ (Heap.get?_push_of_some _ (Heap.get?_push_of_some _ (Heap.get?_push_of_some _ (Heap.get?_push_size _ rfl))))
  show _ ∧ _
  rw [z2, z3, z4] at g5
  rw [z1, z2] at g3
  rw [z3] at g4
  rw [z1] at g2
  rw [z4]
  exact ⟨⟨_, g5, rfl⟩, h _ g5 g3 g4 ⟨_, g1, rfl, rfl⟩ ⟨_, g2, rfl, rfl⟩ z5 fun c o x =>
    Heap.get?_push_of_some _ (Heap.get?_push_of_some _ (Heap.get?_push_of_some _ (Heap.get?_push_of_some _ (Heap.get?_push_of_some _ x))))⟩

end
end RZ
namespace L2
open PySem PySem.Spec RZ
open PyProof.Rows hiding St
theorem callWith_type_kwB {M : Model} {A : Around} {E : Value → Shared → Prop} {s : Shared} {pos : Pos} {T : String} {first : List Value} {args : List (Bool × Sem Value)} {keywords : List (Option Str × Sem Value)} {Q : Value → Shared → Prop}
    (hplain : args.any (·.1) = false) (hkw : keywords.any (·.1.isNone) = false)
    (h : wpAny M A (evalArgs (.type T) true args keywords) (fun a s₁ => wpAny M A (call (.type T) (first ++ a.pos) a.kw) Q E s₁) E s) :
    wpAny M A (callWith pos (.type T) first args keywords) Q E s := by
  unfold callWith
  refine wpAny_bind (wpAny_holding (wpAny_mono h (fun a s₁ h₁ => wpAny_bind (wpAny_standAt ?_)) fun _ _ x => x))
  simp only [hplain, hkw, Bool.or_false]
  refine wpAny_bind (wpAny_pure ?_)
  exact wpAny_bind (wpAny_mono h₁ (fun r s₂ hr => wpAny_bind (wpAny_holding (wpAny_point (wpAny_pure hr)))) fun _ _ x => x)
theorem callWith_typeK {M : Model} {A : Around} {E : Value → Shared → Prop} {s : Shared} {env : Env} {pos : Pos} {T : String} {e : Expr} {rest : List Expr} {kws : List Keyword} {Q : Value → Shared → Prop}
    (h : wpAny M A (spliced (backTo pos (starEach (e :: rest) env))) (fun vs s₁ => wpAny M A (evalAll ((backToKw pos (keywordEach kws env)).map (·.2)))
      (fun kvs s₂ => wpAny M A (call (.type T) vs (((backToKw pos (keywordEach kws env)).filterMap (·.1)).zip kvs)) Q E s₂) E s₁) E s)
    (he : backTo pos (starEach (e :: rest) env) = (false, eval e env) :: backTo pos (starEach rest env) := by rfl)
    (hplain : (backTo pos (starEach (e :: rest) env)).any (·.1) = false := by rfl)
    (hall : (backToKw pos (keywordEach kws env)).all (·.1.isSome) = true := by rfl)
    (hkw : (backToKw pos (keywordEach kws env)).any (·.1.isNone) = false := by rfl) :
    wpAny M A (callWith pos (.type T) [] (backTo pos (starEach (e :: rest) env)) (backToKw pos (keywordEach kws env))) Q E s := by
  refine callWith_type_kwB hplain hkw ?_
  rw [he] at h ⊢
  exact evalArgs_kwB hall h
def iZipS (K : PySem.W.Frag) (ta : TA) : TI := fun σ H R => ta σ H fun vs H1 => ∃ a b xs ys, vs = [.ref a, .ref b] ∧ SqT K H1 a xs ∧ SqT K H1 b ys ∧ R (ItzT K a b) H1
theorem pi_zipS {X : Cx} {e e2 : Expr} {ta : TA} {p pos tpos kp cp : Pos} {elts : List Expr} {kk cj : Nat} (hg : Gl X "zip") (hm : X.mg "zip" = none) (ha : PA X [e, e2] ta)
    (hs : starEach [e, e2] X.env = (false, eval e X.env) :: starEach [e2] X.env := by rfl) (hpl : (backTo pos (starEach [e, e2] X.env)).any (·.1) = false := by rfl) :
    PI X (.Tuple elts kk tpos) (.Call (.Name "zip" p) [e, e2] [⟨some "strict", .Constant (.bool false) cj cp, kp⟩] pos) (iZipS X.K ta) := by
  refine ⟨fun pins s σ H R I h => ?_⟩
  have he : eval (.Call (.Name "zip" p) [e, e2] [⟨some "strict", .Constant (.bool false) cj cp, kp⟩] pos) X.env = (do callWith pos (← eval (.Name "zip" p) X.env) [] (backTo pos (starEach [e, e2] X.env)) (backToKw pos (keywordEach [⟨some "strict", .Constant (.bool false) cj cp, kp⟩] X.env))) := by rfl
  rw [he]
  refine wpAny_bind (ld_blt I hg hm PyProof.Rows.boot_zip (callWith_typeK (thn (ha.run pos pins s σ H _ I h) fun us s0 ⟨vs, H0, I0, r1, q1⟩ => kws_cons (thn ((pe_bl (X := X) (b := false) (j := cj) (pos := cp)).run pins s0 σ H0 (fun x H' => x = .bl false ∧ H' = H0) I0 ⟨rfl, rfl⟩) fun kv s1 ⟨x, H1, I1, rk, ex, eh⟩ => kws_nil ?_)) (by rw [hs]; rfl) hpl))
  subst ex eh
  cases rk
  show wpAny (model X.prog X.w) X.A (call (.type "zip") us [(Str.ofString "strict", .bool false)]) _ _ _
  obtain ⟨a, b, xs, ys, ex, hqx, hqy, q⟩ := q1
  subst ex
  cases r1 with
  | cons r rr =>
    cases rr with
    | cons r' rr =>
      cases rr
      cases r
      cases r'
      have fresh5 : ∀ c, c ∈ [s1.heap.objs.size + 4, s1.heap.objs.size + 2, s1.heap.objs.size + 3, s1.heap.objs.size, s1.heap.objs.size + 1] → FpOk X pins H1 c := fun c hcm => by
        have e' : c = s1.heap.objs.size + 4 ∨ c = s1.heap.objs.size + 2 ∨ c = s1.heap.objs.size + 3 ∨ c = s1.heap.objs.size ∨ c = s1.heap.objs.size + 1 := by simpa using hcm
        have hle : s1.heap.objs.size ≤ c := by
          rcases e' with z | z | z | z | z
          · rw [z]; exact Nat.le_add_right _ _
          · rw [z]; exact Nat.le_add_right _ _
          · rw [z]; exact Nat.le_add_right _ _
          · rw [z]; exact Nat.le_refl _
          · rw [z]; exact Nat.le_add_right _ _
        exact I1.fpOk hle (I1.hok.fresh hle)
      obtain ⟨its, rv, p1, _⟩ := I1.tuple hqx
      obtain ⟨its2, rv2, p2, _⟩ := I1.tuple hqy
      obtain ⟨o1, ho1, _⟩ := id p1
      obtain ⟨o2, ho2, _⟩ := id p2
      refine call_zipT_strict (show s1.heap.IsTuple a its.toArray from p1) (show s1.heap.IsTuple b its2.toArray from p2) fun h' hz hTI hTO h1 h2 hsz hk => wpAny_pyIter_zip hz ?_
      have I2 : Inv X pins σ H1 { s1 with heap := h' } := I1.kept (t' := s1.toks) hk
      exact ⟨s1.heap.objs.size + 4, [s1.heap.objs.size + 4, s1.heap.objs.size + 2, s1.heap.objs.size + 3, s1.heap.objs.size, s1.heap.objs.size + 1], _, _, H1, rfl, I2, turn_zipT (PySem.W.ktu_apart s1.heap.objs.size a b (Heap.lt_size ho1) (Heap.lt_size ho2)), ⟨hz, hTI, ⟨_, _, hTO⟩, h1, h2⟩, fresh5, q⟩

end L2
namespace DL
open PySem PySem.Spec L2 RZ
open PyProof.Rows hiding St
def zipT2 : List DV → Mem → (List DV → (Mem → Prop) → Mem → Prop) → Prop
  | [.d (.tuple xs), .d (.tuple ys)], M, Q => Q (zipD xs ys) (fun _ => True) M
  | _, _, _ => False
theorem zipT2_e1 {xs ys M Q} : zipT2 [.d (.tuple xs), .d (.tuple ys)] M Q = Q (zipD xs ys) (fun _ => True) M := rfl
def srcZs (wa : WA) : WI := fun δ M Q => wa δ M fun ds M1 => zipT2 ds M1 Q
theorem di_zipS {X : Cx} {e e2 : Expr} {wa : WA} {p pos tpos kp cp : Pos} {elts : List Expr} {kk cj : Nat} (hg : Gl X "zip") (hm : X.mg "zip" = none) (ha : DA X [e, e2] wa)
    (hs : starEach [e, e2] X.env = (false, eval e X.env) :: starEach [e2] X.env := by rfl) (hpl : (backTo pos (starEach [e, e2] X.env)).any (·.1) = false := by rfl) :
    DI X (.Tuple elts kk tpos) (.Call (.Name "zip" p) [e, e2] [⟨some "strict", .Constant (.bool false) cj cp, kp⟩] pos) (srcZs wa) :=
  pi_imp (pi_zipS hg hm ha hs hpl) fun σ H R ⟨δ, M, Qd, S, Rm, h, E⟩ => ⟨δ, M, _, S, Rm, h, fun ds M1 vs H1 k1 R1 r1 h1 => by
    unfold zipT2 at h1
    split at h1
    · obtain ⟨v, u, rfl, rv, ru⟩ := two_inv r1
      obtain ⟨a, xs, e1, s1, ra⟩ := RepP.tupK rv
      obtain ⟨b, ys, e2, s2, rb⟩ := RepP.tupK ru
      subst e1 e2
      exact ⟨a, b, xs, ys, rfl, s1 _ _ (Keep.refl _ _), s2 _ _ (Keep.refl _ _), E _ _ M1 H1 _ k1 R1 h1 (itd_zipT s1 ra s2 rb)⟩
    · exact h1.elim⟩
end DL
namespace L2
open PySem PySem.Spec PyProof.Rows
section
variable {P : Program} {w : World} {A : Around} {E : Value → Shared → Prop} {s : Shared}
theorem call_setT_tups {l : Addr} {items : Array Value} (ks : List (Addr × List Int)) {Q : Value → Shared → Prop} (hh : A.handled = none) (hl : s.heap.IsTuple l items) (hit : items.toList = ks.map fun p => Value.ref p.1)
    (hk : ∀ p ∈ ks, IsT P w s.heap p.2 p.1) (hfew : ks.length < 64) (hu : A.units + 3 < cLine)
    (h : ∀ (h' : Heap) (tk : Nat) L es ep t, SetTR P w h' s.heap.objs.size L es ep t → Got ks ks.length L → (∀ b o, s.heap.get? b = some o → h'.get? b = some o) → Q (.ref s.heap.objs.size) { s with heap := h', toks := tk }) :
    wpAny (model P w) A (call (.type "set") [.ref l]) Q E s := by
  have hisz : items.size = ks.length := by
    have q := congrArg List.length hit
    rw [Array.length_toList, List.length_map] at q
    exact q
  obtain ⟨c, tl, hmro⟩ := F.called_set.mro
  have hmade := F.called_set.made
  have hsub := F.called_set.sub
  refine wpAny_call (codeAny_of_tree ?_)
  show wpAny _ _ (callAny (.type "set") _) _ _ _
  refine wpAny_pure ⟨Code.quiet_builtin _ (by decide +kernel), codeAny_builtin F.entry_type_call ?_⟩
  rw [Around.under_plain (weight_type_call_type "set" [.ref l] []) rfl]
  have h1 := F.called_set.notType
  have h2 := F.called_set.canCreate
  have hct := F.typeCall_set_1 (.ref l)
  repeat (any_goals (first | assumption | wp_step))

  refine codeAny_mono (code_set_led1 (.ref l) (E := E) (Q₁ := fun obj s₁ => obj = .ref s.heap.objs.size ∧ s₁ = { s with heap := s.heap.push { cls := .type "set", dict := none, data := .set #[] 0 (.fresh 0 0 (!w.params.followText "set-order")) } }) ⟨rfl, rfl⟩) fun r s₁ hr => ?_
  cases r with
  | error e => exact hr
  | ok fl =>
    cases fl with
    | ret obj =>
      obtain ⟨rfl, rfl⟩ := hr
      have hS : (s.heap.push { cls := .type "set", dict := none, data := .set #[] 0 (.fresh 0 0 (!w.params.followText "set-order")) }).get? s.heap.objs.size = some { cls := .type "set", dict := none, data := .set #[] 0 (.fresh 0 0 (!w.params.followText "set-order")) } := Heap.get?_push_size _ rfl
      have hT : Shared.TypeIs { s with heap := s.heap.push { cls := .type "set", dict := none, data := .set #[] 0 (.fresh 0 0 (!w.params.followText "set-order")) } } (.ref s.heap.objs.size) "set" := ⟨_, hS, rfl⟩
      have hli := F.called_set.init.lookup
      have hbi := F.called_set.init.bind (.ref s.heap.objs.size)
      repeat (any_goals (first | assumption | wp_step))

      refine codeAny_mono (codeAny_call_builtin (R := wants (fun r s₂ => r = .none ∧ ∃ h' tk L es ep t, s₂ = { s with heap := h', toks := tk } ∧ SetTR P w h' s.heap.objs.size L es ep t ∧ Got ks ks.length L ∧
          (∀ b o, s.heap.get? b = some o → h'.get? b = some o)) E) F.called_set.init.plain F.entry_set_init (check_set_init_1 hT ?_)) fun r₂ s₂ hr₂ => ?_
      · obtain ⟨ol, hol, hcl, nl, hdl⟩ := hl
        obtain ⟨ocls, odict, odata, oslots⟩ := ol
        simp only at hcl hdl
        subst hcl; subst hdl
        have hol' : (s.heap.push { cls := .type "set", dict := none, data := .set #[] 0 (.fresh 0 0 (!w.params.followText "set-order")) }).get? l = some { cls := .type "tuple", dict := odict, data := .seq items nl, slots := oslots } := Heap.get?_push_of_some _ hol
        have hsls := F.sub_tuple_set
        have hslf := F.sub_tuple_frozenset
        have hne : (Value.type "tuple" == Value.type "dict") = false := by decide
        have hl1 : (s.heap.push { cls := .type "set", dict := none, data := .set #[] 0 (.fresh 0 0 (!w.params.followText "set-order")) }).IsTuple l items := ⟨_, hol', rfl, nl, rfl⟩
        unfold Builtin.«set.__init__» noKeywords Builtin.Frozenset.updateFrom
        generalize hPI : pyIter = PI
        wp_walk
        subst hPI

        refine wpAny_pyIter_tuple hl1 ?_
        refine wpAny_bind (wpAny_runValue ?_)
        have hlS : l < s.heap.objs.size := Heap.lt_size hol
        have hh3 : A.in1.in1.in1.handled = none := by simp [hh]
        have hz1 : (s.heap.push { cls := .type "set", dict := none, data := .set #[] 0 (.fresh 0 0 (!w.params.followText "set-order")) }).objs.size = s.heap.objs.size + 1 := Heap.size_push ..
        have hneI : l ≠ (s.heap.push { cls := .type "set", dict := none, data := .set #[] 0 (.fresh 0 0 (!w.params.followText "set-order")) }).objs.size := by
          rw [Heap.size_push]; exact Nat.ne_of_lt (Nat.lt_succ_of_lt hlS)
        have hSf : s.heap.objs.size ∉ [(s.heap.push { cls := .type "set", dict := none, data := .set #[] 0 (.fresh 0 0 (!w.params.followText "set-order")) }).objs.size, l] := by
          rw [Heap.size_push]; simp only [List.mem_cons, List.mem_singleton, List.not_mem_nil, or_false, not_or]
          exact ⟨Nat.ne_of_lt (Nat.lt_succ_self _), Nat.ne_of_gt hlS⟩
        have hval : ∀ (i : Nat) (v : Value), items[i]? = some v → ∃ p, ks[i]? = some p ∧ v = .ref p.1 := fun i v hv => by
          have q : items.toList[i]? = some v := by rw [Array.getElem?_toList]; exact hv
          rw [hit, List.getElem?_map] at q
          cases hq : ks[i]? with
          | none => rw [hq] at q; cases q
          | some p =>
            rw [hq] at q
            exact ⟨p, rfl, (Option.some.inj q).symm⟩
        have none_of : ∀ b, s.heap.objs.size ≤ b → s.heap.get? b = none := fun b hb => by
          cases q : s.heap.get? b with
          | none => rfl
          | some o => exact absurd (Nat.lt_of_lt_of_le (Heap.lt_size q) hb) (Nat.lt_irrefl _)
        refine set_update_tups ((Walks.tuple hh3 _ l hneI items).toS) s.heap.objs.size
          hSf ks hisz hfew hval s.heap hk (none_of _ (Nat.le_refl _)) (fun b hb => none_of b (by
            rw [List.mem_singleton.mp hb, Heap.size_push]
            exact Nat.le_succ _)) hu (items.size - 0) 0 _ (by omega) (Nat.zero_le _)
          ⟨⟨_, Heap.get?_push_size _ rfl, rfl, rfl⟩, (Heap.IsTuple.push hl1 _)⟩ (fun b o e => Heap.get?_push_of_some _ (Heap.get?_push_of_some _ e)) ?hS0 ?hR
        case hS0 =>
          have hget : ((s.heap.push { cls := .type "set", dict := none, data := .set #[] 0 (.fresh 0 0 (!w.params.followText "set-order")) }).push { cls := .type "tuple_iterator", data := .fields #[.ref l, .int 0 0] }).get? s.heap.objs.size
              = some { cls := .type "set", dict := none, data := .set #[] 0 (.fresh 0 0 (!w.params.followText "set-order")) } := Heap.get?_push_of_some _ hS
          exact ⟨[], #[], 0, _, setTR_fresh hget, Got.zero ks⟩
        case hR =>
          intro s' L es ep t hm hS' g' hkp
          obtain ⟨h', g2, d', tk', os'⟩ := s'
          have eg : g2 = s.gens := hm.gens
          have ed : d' = s.drawn := hm.drawn
          have eo : os' = s.os := hm.os
          subst eg; subst ed; subst eo
          show wpAny _ _ _ _ _ _
          refine wpAny_pure ?_
          show wpAny _ _ (ret Value.none) _ _ _
          rw [hisz] at g'
          exact wpAny_pure ⟨rfl, h', tk', L, es, ep, t, rfl, hS', g', hkp⟩

      · cases r₂ with
        | error e => exact hr₂
        | ok fl₂ =>
          cases fl₂ with
          | ret r =>
            obtain ⟨rfl, h', tk, L, es, ep, t, rfl, hS', g', hk'⟩ := hr₂
            repeat (any_goals (first | assumption | wp_step))
            exact h _ _ _ _ _ _ hS' g' hk'
          | _ => exact hr₂.elim
    | _ => exact hr.elim

end
end L2
namespace L2
open PySem PySem.Spec RZ
open PyProof.Rows hiding St
def rSetOfA (K : PySem.W.Frag) (P : Program) (w : World) : List V → Hp → VK → Prop := fun xs H Q => ∃ (l : Addr) (ks : List (Addr × List Int)), xs = [V.ref l] ∧ (SqL K H l (ks.map fun p => V.ref p.1) ∨ SqT K H l (ks.map fun p => V.ref p.1)) ∧ (∀ p ∈ ks, SqT K H p.1 (p.2.map V.int)) ∧ ks.length < 64 ∧
  ∀ a L, H a = none → (∀ p ∈ L, p ∈ ks) → (∀ p ∈ ks, p.2 ∈ L.map (·.2)) → Q (.ref a) (upd H a (SetTO P w a L))
theorem cr_setOfA {X : Cx} (hc : X.calm = true) (hu : X.A.units + 64 < cLine) : CallR X (.type "set") (rSetOfA X.K X.prog X.w) := by
  intro pins s σ H xs us Q I r h
  obtain ⟨l, ks, rfl, hl, hk, hf, q⟩ := h
  rcases hl with hl | hl
  · exact cr_setOfT hc hu pins s σ H _ us Q I r ⟨l, ks, rfl, hl, hk, hf, q⟩
  · rw [Vals.ref1 r]
    obtain ⟨its, rv, pl, hz⟩ := I.tuple hl
    have hn : H s.heap.objs.size = none := I.hok.fresh (Nat.le_refl _)
    refine call_setT_tups (P := X.prog) (w := X.w) ks (I.ok.hd hc) (show s.heap.IsTuple l its.toArray from pl) (by simpa using refs_of_vals rv) (fun p hp => I.isT (hk p hp)) hf (by omega) fun h' tk L es ep t R g k => ?_
    refine ⟨.ref s.heap.objs.size, upd H s.heap.objs.size (SetTO X.prog X.w s.heap.objs.size L), I.laid (t' := tk) k (Nat.le_refl _) (setTO_new R.t0), rfl, q _ L hn (fun p hp => ?_) fun p hp => ?_⟩
    · exact List.mem_of_mem_take (g.sub p hp)
    · exact g.all p (by rw [List.take_length]; exact hp)
end L2
namespace DL
open PySem PySem.Spec L2 RZ
open PyProof.Rows hiding St
def tupI (k : List Int) : PyData := .tuple (k.map .int)
def ssD (x : DV) (M : Mem) (Q : DQ) : Prop := ∃ (ks : List (List Int)) (d : Nat) (B : Int), (x = .d (.list (ks.map tupI)) ∨ x = .d (.tuple (ks.map tupI))) ∧ ks.length < 64 ∧ 1 ≤ d ∧ (∀ k ∈ ks, k.length = d ∧ TS.Bd B k) ∧
  ∀ zs : List (List Int), (∀ k, k ∈ zs ↔ k ∈ ks) → zs.Nodup → zs.Pairwise (fun a b => TS.code B a ≤ TS.code B b) → Q (.d (.list (zs.map tupI))) M
def wSS (we : WE) : WE := fun δ M Q => we δ M fun x M1 => ssD x M1 Q
theorem RepA.ints_inv {K : PySem.W.Frag} {H : Hp} {M : Mem} : ∀ {k : List Int} {vs : List V}, RepA K H M vs (k.map .int) → vs = k.map V.int
  | [], _, h => by cases h; rfl
  | n :: k, _, h => by
    cases h with
    | cons h1 h2 => rw [RepP.int_inv h1, RepA.ints_inv h2]; rfl
theorem RepA.tups {K : PySem.W.Frag} {H : Hp} {M : Mem} : ∀ {ks : List (List Int)} {vs : List V}, RepA K H M vs (ks.map tupI) → ∃ ps : List (Addr × List Int), vs = ps.map (fun p => V.ref p.1) ∧ ps.map (·.2) = ks ∧ (∀ p ∈ ps, SqT K H p.1 (p.2.map V.int)) ∧ ∀ p ∈ ps, RepP K H M (.ref p.1) (tupI p.2)
  | [], _, h => by cases h; exact ⟨[], rfl, rfl, (fun p h => by cases h), (fun p h => by cases h)⟩
  | k :: ks, _, h => by
    cases h with
    | cons h1 h2 =>
      obtain ⟨ps, e1, e2, e3, e4⟩ := RepA.tups h2
      obtain ⟨a, xs, e, s, ra⟩ := RepP.tup_inv h1
      have := RepA.ints_inv ra
      subst this e
      refine ⟨(a, k) :: ps, by rw [e1]; rfl, by rw [List.map_cons, e2], fun p hp => ?_, fun p hp => ?_⟩
      · rcases List.mem_cons.mp hp with rfl | hp
        · exact s
        · exact e3 p hp
      · rcases List.mem_cons.mp hp with rfl | hp
        · exact h1
        · exact e4 p hp
theorem RepA.of_tups {K : PySem.W.Frag} {H : Hp} {M : Mem} : ∀ {ps : List (Addr × List Int)}, (∀ p ∈ ps, RepP K H M (.ref p.1) (tupI p.2)) → RepA K H M (ps.map fun p => V.ref p.1) ((ps.map (·.2)).map tupI)
  | [], _ => .nil
  | p :: ps, h => .cons (h p (by simp)) (RepA.of_tups fun q hq => h q (by simp [hq]))
theorem SqT.keepN {K : PySem.W.Frag} {H : Hp} {a p : Addr} {o : HO} {xs : List V} (h : SqT K H a xs) (hp : H p = none) : SqT K (upd H p o) a xs := by
  rcases h with h | h
  · refine .inl ?_
    rcases h with h | ⟨ob, h⟩
    · exact .inl (by rw [upd_ne (ne_of_none h hp)]; exact h)
    · exact .inr ⟨ob, by rw [upd_ne (ne_of_none h hp)]; exact h⟩
  · exact .inr h
section
variable {X : Cx} {a : Expr} {wa : WE}
theorem de_sortSet {p1 p2 pos pos2 : Pos} (hu : X.A.units + 64 < cLine) (hc : X.calm = true) (hg : Gl X "sorted") (hm : X.mg "sorted" = none) (hg2 : Gl X "set") (hm2 : X.mg "set" = none) (ha : DE X a wa)
    (hv : bootBuiltins "sorted" = some (.builtin "sorted") := by decide +kernel) (hv2 : bootBuiltins "set" = some (.type "set") := by decide +kernel)
    (he : starEach [a] X.env = (false, eval a X.env) :: starEach [] X.env := by rfl) (hpl : (backTo pos2 (starEach [] X.env)).any (·.1) = false := by rfl)
    (he2 : starEach [.Call (.Name "set" p2) [a] [] pos2] X.env = (false, eval (.Call (.Name "set" p2) [a] [] pos2) X.env) :: starEach [] X.env := by rfl) (hpl2 : (backTo pos (starEach [] X.env)).any (·.1) = false := by rfl) :
    DE X (.Call (.Name "sorted" p1) [.Call (.Name "set" p2) [a] [] pos2] [] pos) (wSS wa) := by
  have h1 := pe_callTy (p := p2) (cr_setOfA hc hu) hg2 hm2 hv2 (pa_cons ha pa_nil he) (by decide) (by decide) he hpl
  have h2 := pe_callB (p := p1) (cr_sortedT hc) hg hm hv (pa_cons h1 pa_nil he2) (by decide) (by decide) he2 hpl2
  refine pe_imp h2 fun σ H Q ⟨δ, M, Qd, S, R, h, E⟩ => ?_
  refine ⟨δ, M, _, S, R, h, fun d M1 v H1 k1 R1 r1 h1 => ?_⟩
  obtain ⟨ks, n, B, hx, hl, hd, hB, q⟩ := h1
  have E1 := E.step k1
  have key : ∃ (l : Addr) (ps : List (Addr × List Int)), v = .ref l ∧ (SqL X.K H1 l (ps.map fun p : Addr × List Int => V.ref p.1) ∨ SqT X.K H1 l (ps.map fun p => V.ref p.1)) ∧ ps.map (·.2) = ks ∧ (∀ p ∈ ps, SqT X.K H1 p.1 (p.2.map V.int)) ∧ ∀ p ∈ ps, RepP X.K H1 M1 (.ref p.1) (tupI p.2) := by
    rcases hx with rfl | rfl
    · obtain ⟨l, vs, e, s, _, ra⟩ := RepP.lst_inv r1
      obtain ⟨ps, rfl, e2, e3, e4⟩ := RepA.tups ra
      exact ⟨l, ps, e, .inl (SqL.of s), e2, e3, e4⟩
    · obtain ⟨l, vs, e, s, ra⟩ := RepP.tup_inv r1
      obtain ⟨ps, rfl, e2, e3, e4⟩ := RepA.tups ra
      exact ⟨l, ps, e, .inr s, e2, e3, e4⟩
  obtain ⟨l, ps, rfl, hs, hps, ht, hr⟩ := key
  refine ⟨l, ps, rfl, hs, ht, by rw [← List.length_map (f := (·.2)) (as := ps), hps]; exact hl, fun sa L hsa hL1 hL2 => ?_⟩
  refine ⟨sa, L, n, B, rfl, upd_same, fun p hp => SqT.keepN (ht p (hL1 p hp)) hsa, hd, fun p hp => hB _ (by rw [← hps]; exact List.mem_map.mpr ⟨p, hL1 p hp, rfl⟩), fun L' pa pm nd hfew pw hpa => ?_⟩
  have kk : Keep H1 M1 (upd H1 sa (SetTO X.prog X.w sa L)) M1 := Keep.new R1 hsa
  have Rs : RelM X.K (upd H1 sa (SetTO X.prog X.w sa L)) M1 := R1.new hsa
  refine (E1.step kk).lst Rs (RepA.of_tups fun p hp => RepP.keep kk _ _ (hr p (hL1 p (pm.mem_iff.mp hp)))) hpa (q (L'.map (·.2)) (fun k => ?_) nd (List.pairwise_map.mpr pw))
  rw [(pm.map (·.2)).mem_iff]
  constructor
  · intro hk
    obtain ⟨p, hp, rfl⟩ := List.mem_map.mp hk
    rw [← hps]
    exact List.mem_map.mpr ⟨p, hL1 p hp, rfl⟩
  · intro hk
    rw [← hps] at hk
    obtain ⟨p, hp, rfl⟩ := List.mem_map.mp hk
    exact hL2 p hp
end
end DL
namespace RZ
open PySem
theorem meets_enumerate_newT {v : Value} {o : Obj} {H : Heap → Prop} (B : Begins v o H) :
    Meets (Builtin.«enumerate.__new__» ⟨[.type "enumerate", v], []⟩) (fun _ R s => H s.heap ∧
      R (.ok (.ret (.ref (s.heap.push o).objs.size))) { s with heap := (s.heap.push o).push { cls := .type "enumerate", data := .fields #[.none, .bool false, .ref s.heap.objs.size, rawInt 0, .none, .none] } }) :=
  .of_wp fun prog w A R s h => by
    obtain ⟨hp, g, d, tk, os⟩ := s; obtain ⟨h1, h⟩ := h
    have hsub := sub_enumerate
    have q1 : ∀ {A' : Around} {E : Value → Shared → Prop} {Q : Value → Shared → Prop}, Q (.ref hp.objs.size) ⟨hp.push o, g, d, tk, os⟩ → wpAny (model prog w) A' (pyIter v) Q E ⟨hp, g, d, tk, os⟩ :=
      fun q => B.iter prog w _ _ ⟨hp, g, d, tk, os⟩ _ h1 q
    wp_walk using q1
    refine wpAny_stack_any fun st => wpAny_pure ?_
    split
    · rename_i c _ _ _ _ _
      cases (c == Value.type "enumerate")
      · wp_walk using q1
        exact ⟨_, rfl, h⟩
      · wp_walk using q1
        exact ⟨_, rfl, h⟩
    · wp_walk using q1
      exact ⟨_, rfl, h⟩
section
variable {prog : Program} {w : World} {A : Around} {E : Value → Shared → Prop} {s : Shared}
theorem call_enumerate_begins {v : Value} {o : Obj} {H : Heap → Prop} {Q : Value → Shared → Prop} (B : Begins v o H) (h1 : H s.heap)
    (h : ∀ h', IsEnum h' (s.heap.objs.size + 1) s.heap.objs.size 0 .none → h'.get? s.heap.objs.size = some o → h'.objs.size = s.heap.objs.size + 2 →
      (∀ b o, s.heap.get? b = some o → h'.get? b = some o) → Q (.ref (s.heap.objs.size + 1)) { s with heap := h' }) :
    wpAny (model prog w) A (call (.type "enumerate") [v]) Q E s := by
  refine callType_new F.called_enumerate (by decide) (F.typeCall_enumerate_1 _) (F.newCall_enumerate_1 _) (fun obj => F.args_object_init_2 obj _) F.entry_enumerate_new
    (meets_enumerate_newT B) ⟨h1, ?_⟩
  have hz : (s.heap.push o).objs.size = s.heap.objs.size + 1 := Heap.size_push ..
  show _ ∧ _
  rw [hz]
  have he : IsEnum ((s.heap.push o).push { cls := .type "enumerate", data := .fields #[.none, .bool false, .ref s.heap.objs.size, rawInt 0, .none, .none] }) (s.heap.objs.size + 1) s.heap.objs.size 0 .none := by
    have := Heap.get?_push_size (s.heap.push o) (o := { cls := .type "enumerate", data := .fields #[.none, .bool false, .ref s.heap.objs.size, rawInt 0, .none, .none] }) rfl
    rw [hz] at this; exact this
  refine ⟨⟨_, he, rfl⟩, h _ he (Heap.get?_push_of_some _ (Heap.get?_push_size _ B.free)) (by rw [Heap.size_push, hz]) fun b o x => Heap.get?_push_of_some _ (Heap.get?_push_of_some _ x)⟩
theorem pyNext_enumT_end {e it a : Addr} {items : Array Value} {i : Nat} {old : Value} {Q : Option Value → Shared → Prop} (hh : A.handled = none) (he : IsEnum s.heap e it i old) (hit : s.heap.IsTupleIter it a i) (hpt : s.heap.IsTuple a items) (hi : items.size ≤ i)
    (hQ : ∀ h', Heap.ExtBut it s.heap h' → Q none { s with heap := h' }) : wpAny (model prog w) A (pyNext (.ref e)) Q E s := by
  have hT : s.TypeIs (.ref e) "enumerate" := ⟨_, he, rfl⟩
  unfold pyNext
  refine wpAny_bind (wpAny_attempt (wpAny_callSpecial?_slot (name := Str.ofString "__next__") hT F.slot_enumerate_next
    (wpAny_call_entry F.slot_enumerate_next hT F.entry_enumerate_next ?_ (F.args_enumerate_next_1 _))))
  show wpAny _ _ (field (.ref e) 2 >>= _) _ _ _
  refine wpAny_bind (wpAny_field he rfl (x := .ref it) rfl ?_)
  refine wpAny_bind (wpAny_nextOf_tuple_end (by simp [hh]) hit hpt (by simp; omega) fun h' x he' hx' => ?_)
  obtain ⟨o, ho, hc⟩ := hx'
  refine wpAny_bind (wpAny_isInstance (T := "StopIteration") (b := true) ⟨o, ho, hc⟩ isSubtype_stop ?_)
  exact wpAny_pure (hQ _ he')
end
end RZ
namespace L2
open PySem PySem.Spec RZ
open PyProof.Rows hiding St
def IteT (K : PySem.W.Frag) (a : Addr) : It :=
  ⟨fun i H => ∃ (xs : List V) (x : V), SqT K H a xs ∧ xs[i]? = some x, fun i H v H' => ∃ T x, v = .ref T ∧ H T = none ∧ H' = upd H T (.tup [.int (i : Nat), x]) ∧ ∀ xs, SqT K H a xs → xs[i]? = some x, fun i H => ∃ xs : List V, SqT K H a xs ∧ xs.length ≤ i⟩
theorem turn_enumT {P : Program} {w : World} {K : PySem.W.Frag} {elts : List Expr} {kk : Nat} {tpos : Pos} (a e it : Addr) :
    Turn P w K (.Tuple elts kk tpos) (IteT K a) [e, it] e (fun i h => (∃ old, IsEnum h e it ((i : Nat) : Int) old) ∧ h.IsTupleIter it a i ∧ e ≠ it ∧ a ≠ it ∧ e ≠ a) where
  mem := by simp
  obj := fun i h st b hb => by
    obtain ⟨⟨old, he⟩, ⟨o, ho, hc, hd⟩, _⟩ := st
    have e' : b = e ∨ b = it := by simpa using hb
    rcases e' with z | z
    · rw [z]; exact ⟨_, he, fun v q => nomatch q⟩
    · rw [z]; exact ⟨o, ho, fun v q => by rw [hd] at q; cases q⟩
  keep := fun i h h' st k => let ⟨⟨old, he⟩, hi, hne⟩ := st; ⟨⟨old, k e (by simp) _ he⟩, hi.at fun o q => k it (by simp) o q, hne⟩
  item := by
    intro X hP hw hK hc i pins s σ H E I hf st hg
    subst hP hw hK
    obtain ⟨⟨old, he⟩, hit, hne, hai, hea⟩ := st
    obtain ⟨xs, x, hq, hx⟩ := hg
    obtain ⟨its, rv, p, hz⟩ := I.tuple hq
    obtain ⟨u, hu, ru⟩ := rv.get hx
    have hel : e < s.heap.objs.size := Heap.lt_size he
    have hil : it < s.heap.objs.size := by obtain ⟨_, q, _⟩ := hit; exact Heap.lt_size q
    have hpt : s.heap.IsTuple a its.toArray := p
    have hlt : i < its.toArray.size := by
      have : i < its.length := (List.getElem?_eq_some_iff.mp hu).1
      simpa using this
    refine wpAny_pyNext_enum_itemD (Draws.tuple (by simp [I.ok.hd hc]) it a hai its.toArray) he ⟨hit, hpt⟩ hlt hne (by simp [hne, hea]) fun u' h' tk hPu ho hst' hT hsz hk => ?_
    have hu' : u' = u := by
      have q1 : its.toArray[i]? = some u' := hPu
      have q2 : its.toArray[i]? = some u := by simpa using hu
      rw [q2] at q1
      exact (Option.some.inj q1).symm
    subst hu'
    refine ⟨_, rfl, wpAny_letOwnedTupleGo_enum (s := { s with heap := h', toks := tk + 1 }) ho fun h'' he' sb => ?_⟩
    have hT2 : h''.get? s.heap.objs.size = some { cls := .type "tuple", data := .seq #[.int i tk, u'] } := (sb.2 _ (Nat.ne_of_gt hel)).trans hT
    have new : ObjOk X.prog X.w (upd H s.heap.objs.size (.tup [.int (i : Nat), x])) h'' s.heap.objs.size (.tup [.int (i : Nat), x]) :=
      ⟨by show 2 ≤ sizeLine; decide, [.int i tk, u'], .cons ⟨_, rfl⟩ (.cons ru .nil), ⟨_, hT2, rfl, _, rfl⟩⟩
    have I1 : Inv X pins σ (upd H s.heap.objs.size (.tup [.int (i : Nat), x])) { s with heap := h'', toks := tk + 1 } :=
      I.turnedNew (ch := [e, it]) (fun b ob hb q => (sb.2 b (fun z => hb (by simp [z]))).trans (hk b ob (fun z => hb (by simp [z])) (fun z => hb (by simp [z])) q)) hf (Nat.le_refl _) new
    refine ⟨.ref s.heap.objs.size, _, I1, rfl, ⟨_, x, rfl, I.hok.fresh (Nat.le_refl _), rfl, fun ys hy => by rw [I.tuple_inj hy hq]; exact hx⟩, ⟨⟨u', ?_⟩, hst'.1.at fun o q => (sb.2 it (Ne.symm hne)).trans q, hne, hai, hea⟩, fun b hb => ?_⟩
    · have e1 : ((i + 1 : Nat) : Int) = (i : Int) + 1 := by omega
      rw [e1]; exact he'
    · have hb' : b < s.heap.objs.size := by
        have e' : b = e ∨ b = it := by simpa using hb
        rcases e' with z | z
        · rw [z]; exact hel
        · rw [z]; exact hil
      rw [upd_ne (Nat.ne_of_lt hb')]
      exact (hf b hb).1
  done := by
    intro X hP hw hK hc i pins s σ H E I hf st hg
    subst hP hw hK
    obtain ⟨⟨old, he⟩, hit, hne, hai, hea⟩ := st
    obtain ⟨xs, hq, hx⟩ := hg
    obtain ⟨its, rv, p, hz⟩ := I.tuple hq
    obtain ⟨f0, f1, f2, f3, f4, f5⟩ := hf it (by simp)
    have hl := rv.length
    have hpt : s.heap.IsTuple a its.toArray := p
    exact pyNext_enumT_end (I.ok.hd hc) he hit hpt (by simp; omega) fun h' eb => ⟨rfl, I.turned (t' := s.toks) (fun b o hb q => eb b o hb q) f0 f1 f3 f4 f5⟩
  self := fun A i s Q E st h => let ⟨⟨_, he⟩, _⟩ := st; wpAny_pyIter_enum he h
def iEnumT (K : PySem.W.Frag) (ta : TA) : TI := fun σ H R => ta σ H fun vs H1 => ∃ a xs, vs = [.ref a] ∧ SqT K H1 a xs ∧ R (IteT K a) H1
theorem pi_enumT {X : Cx} {e : Expr} {ta : TA} {p pos tpos : Pos} {elts : List Expr} {kk : Nat} (hg : Gl X "enumerate") (hm : X.mg "enumerate" = none) (ha : PA X [e] ta) (hs : starEach [e] X.env = [(false, eval e X.env)] := by rfl) :
    PI X (.Tuple elts kk tpos) (.Call (.Name "enumerate" p) [e] [] pos) (iEnumT X.K ta) := by
  refine ⟨fun pins s σ H R I h => ?_⟩
  refine Call_ (ld_blt I hg hm boot_enumerate (PyProof.Rows.callWith_type1 (thn (ha.run pos pins s σ H _ I h) fun us s1 ⟨vs, H1, I1, r1, q1⟩ => ?_) hs rfl))
  obtain ⟨a, xs, ex, hq, q⟩ := q1
  subst ex
  cases r1 with
  | cons r rr =>
    cases rr
    cases r
    obtain ⟨its, rv, p', hz⟩ := I1.tuple hq
    have hpt : s1.heap.IsTuple a its.toArray := p'
    have hal : a < s1.heap.objs.size := by obtain ⟨o, ho, _⟩ := hpt; exact Heap.lt_size ho
    refine call_enumerate_begins (begins_tuple a its.toArray) hpt fun h' he hit hsz hk => wpAny_pyIter_enum he ?_
    have I2 : Inv X pins σ H1 { s1 with heap := h' } := I1.kept (t' := s1.toks) hk
    refine ⟨s1.heap.objs.size + 1, [s1.heap.objs.size + 1, s1.heap.objs.size], _, _, H1, rfl, I2, turn_enumT a (s1.heap.objs.size + 1) s1.heap.objs.size, ⟨⟨.none, he⟩, ⟨_, hit, rfl, rfl⟩, Nat.succ_ne_self _, Nat.ne_of_lt hal, Nat.ne_of_gt (Nat.lt_succ_of_lt hal)⟩, fun b hb => ?_, q⟩
    have e' : b = s1.heap.objs.size + 1 ∨ b = s1.heap.objs.size := by simpa using hb
    have hle : s1.heap.objs.size ≤ b := by
      rcases e' with z | z
      · rw [z]; exact Nat.le_add_right _ _
      · rw [z]; exact Nat.le_refl _
    exact I1.fpOk hle (I1.hok.fresh hle)
end L2
namespace DL
open PySem PySem.Spec L2 RZ
open PyProof.Rows hiding St
theorem itd_enumT {K : PySem.W.Frag} {H : Hp} {M : Mem} {a : Addr} {xs : List V} {ds : List PyData} (e : ∀ H' M', Keep H M H' M' → SqT K H' a xs) (r : RepA K H M xs ds) : ItD K H M (IteT K a) (enumD 0 ds) (fun _ => True) where
  go := fun i H' M' k R _ hi => by
    have hi' : i < xs.length := by rw [r.length]; simpa [enumD_length] using hi
    exact ⟨xs, xs[i], e _ _ k, by simp [hi']⟩
  yld := fun i H' M' x H2 k R _ hi ⟨T, y, e1, hT, e2, q⟩ => by
    subst e1 e2
    have hi' : i < ds.length := by simpa [enumD_length] using hi
    obtain ⟨v, hv, rv⟩ := (RepA.keep k _ _ r).get (i := i) (d := ds[i]) (by simp [hi'])
    have := q xs (e _ _ k)
    rw [hv] at this
    obtain rfl : v = y := Option.some.inj this
    refine ⟨.d (.tuple [.int ((0 + i : Nat) : Int), ds[i]]), by rw [enumD_get]; simp [hi'], Keep.new R hT, R.new hT, ?_⟩
    have kk := Keep.new R (o := .tup [.int (i : Nat), v]) hT
    refine RepP.tup upd_same (R.no hT) (.cons ?_ (.cons (RepP.keep kk _ _ rv) .nil))
    have z : ((0 + i : Nat) : Int) = (i : Int) := by omega
    rw [z]
    exact .int _
  stop := fun H' M' k R _ => ⟨xs, e _ _ k, by rw [r.length, enumD_length]; exact Nat.le_refl _⟩
def enumT1 : List DV → Mem → (List DV → (Mem → Prop) → Mem → Prop) → Prop
  | [.d (.tuple xs)], M, Q => Q (enumD 0 xs) (fun _ => True) M
  | _, _, _ => False
theorem enumT1_e1 {xs M Q} : enumT1 [.d (.tuple xs)] M Q = Q (enumD 0 xs) (fun _ => True) M := rfl
def srcEt (wa : WA) : WI := fun δ M Q => wa δ M fun ds M1 => enumT1 ds M1 Q
theorem di_enumT {X : Cx} {e : Expr} {wa : WA} {p pos tpos : Pos} {elts : List Expr} {kk : Nat} (hg : Gl X "enumerate") (hm : X.mg "enumerate" = none) (ha : DA X [e] wa) (hs : starEach [e] X.env = [(false, eval e X.env)] := by rfl) :
    DI X (.Tuple elts kk tpos) (.Call (.Name "enumerate" p) [e] [] pos) (srcEt wa) :=
  pi_imp (pi_enumT hg hm ha hs) fun σ H R ⟨δ, M, Qd, S, Rm, h, E⟩ => ⟨δ, M, _, S, Rm, h, fun ds M1 vs H1 k1 R1 r1 h1 => by
    unfold enumT1 at h1
    split at h1
    · obtain ⟨v, rfl, rv⟩ := one_inv r1
      obtain ⟨a, xs, e1, s1, ra⟩ := RepP.tupK rv
      subst e1
      exact ⟨a, xs, rfl, s1 _ _ (Keep.refl _ _), E _ _ M1 H1 _ k1 R1 h1 (itd_enumT s1 ra)⟩
    · exact h1.elim⟩
end DL
namespace Ob
open PySem PySem.SeqAt
open PySem.AutoSeq1 (wpAny_loadPart')
open PySem.MeetsSeq PySem.MeetsSeq2 PySem.MeetsSeq3
theorem tuple_ltFirst (l b : Addr) (items items2 : Array Value) (n n2 : Nat) (dd dd2 : Option Addr) (sl sl2 : Array (Option Value)) (e r : Nat → Bool) :
    Meets (Builtin.«tuple.__lt__» ⟨[.ref l, .ref b], []⟩)
      (fun A R s => s.heap.get? l = some { cls := .type "tuple", dict := dd, data := .seq items n, slots := sl } ∧ s.heap.get? b = some { cls := .type "tuple", dict := dd2, data := .seq items2 n2, slots := sl2 } ∧
        (∀ j (h1 : j < items.size) (h2 : j < items2.size), EqAt A.in1 s items[j] items2[j] (e j)) ∧
        (∀ j (h1 : j < items.size) (h2 : j < items2.size), (∀ k < j, e k = true) → e j = false → RcOp .Lt A.in1 s items[j] items2[j] (r j)) ∧
        R (.ok (.ret (.bool (lexAt e r (decide (items.size < items2.size)) 0 (min items.size items2.size))))) s) :=
  .of_wp fun prog w A R s h => by
    obtain ⟨hp, g, d, tk, os⟩ := s; obtain ⟨hl, hb, he, hr, h⟩ := h
    have f2 := AutoSeq1.sub_tuple_tuple
    have hZ : (items.toList.zip items2.toList).length = min items.size items2.size := by simp
    wp_walk using wpAny_loadPart' hl, wpAny_loadPart' hb, wpAny_forIn_list _ (fun rest b s' => b.1 = none ∧ s' = ⟨hp, g, d, tk, os⟩ ∧ ∃ i, (∀ k < i, e k = true) ∧ rest = (items.toList.zip items2.toList).drop i ∧
      R (.ok (.ret (.bool (lexAt e r (decide (items.size < items2.size)) i (min items.size items2.size - i))))) ⟨hp, g, d, tk, os⟩) _
    case turn =>
      rintro ⟨y, x⟩ rest b s' ⟨hb', rfl, i, hbef, hz, hR⟩
      have hlt : i < (items.toList.zip items2.toList).length := by
        rcases Nat.lt_or_ge i (items.toList.zip items2.toList).length with h' | h'
        · exact h'
        · rw [List.drop_of_length_le h'] at hz; cases hz
      have hm : i < min items.size items2.size := hZ ▸ hlt
      have h1 : i < items.size := Nat.lt_of_lt_of_le hm (Nat.min_le_left _ _)
      have h2 : i < items2.size := Nat.lt_of_lt_of_le hm (Nat.min_le_right _ _)
      rw [List.drop_eq_getElem_cons hlt] at hz
      injection hz with hyx hrest
      have hy : y = items[i] := by have := congrArg Prod.fst hyx; simpa using this
      have hx : x = items2[i] := by have := congrArg Prod.snd hyx; simpa using this
      subst hy hx
      rw [show min items.size items2.size - i = (min items.size items2.size - (i + 1)) + 1 by omega, lexAt_succ] at hR
      refine wpAny_bind (he i h1 h2 prog w _ _ ?_)
      cases hei : e i with
      | true =>
        rw [hei, if_pos rfl] at hR
        wp_walk
        exact ⟨rfl, rfl, i + 1, (fun k hk => by
          rcases Nat.lt_or_ge k i with q | q
          · exact hbef k q
          · have e' : k = i := by omega
            subst e'; exact hei), hrest, hR⟩
      | false =>
        rw [hei, if_neg Bool.false_ne_true] at hR
        have hri := hr i h1 h2 hbef hei prog w
        wp_walk using hri
        exact ⟨_, rfl, by simpa using hR⟩
    case fin =>
      rintro ⟨b1, b2⟩ s' ⟨hb', rfl, i, _, hz, hR⟩
      simp only at hb'
      subst hb'
      have hge : min items.size items2.size ≤ i := by
        rcases Nat.lt_or_ge i (items.toList.zip items2.toList).length with h' | h'
        · rw [List.drop_eq_getElem_cons h'] at hz; cases hz
        · exact hZ ▸ h'
      rw [Nat.sub_eq_zero_of_le hge, lexAt_zero] at hR
      wp_walk
      exact ⟨_, rfl, by simpa [Builtin.Tuple.tupleCompareSizes] using hR⟩
    case h =>
      exact ⟨rfl, rfl, 0, (fun k hk => absurd hk (Nat.not_lt_zero _)), rfl, by simpa using h⟩

theorem RcOp.tuples_ltFirst {A : Around} {s : Shared} {l b : Addr} {items items2 : Array Value} {e r : Nat → Bool} (hl : s.heap.IsTuple l items) (hb : s.heap.IsTuple b items2) (hu : A.units < cLine)
    (he : ∀ j (h1 : j < items.size) (h2 : j < items2.size), EqAt A.in1 s items[j] items2[j] (e j))
    (hr : ∀ j (h1 : j < items.size) (h2 : j < items2.size), (∀ k < j, e k = true) → e j = false → RcOp .Lt A.in1 s items[j] items2[j] (r j)) :
    RcOp .Lt A s (.ref l) (.ref b) (lexAt e r (decide (items.size < items2.size)) 0 (min items.size items2.size)) := fun prog w E Q h => by
  obtain ⟨⟨cls, dd, data, sl⟩, ho, hc, n, hd⟩ := id hl
  obtain ⟨⟨cls2, dd2, data2, sl2⟩, ho2, hc2, n2, hd2⟩ := id hb
  simp only at hc hd hc2 hd2
  subst hc hd hc2 hd2
  exact richCompare_meets_room (op := .Lt) ⟨_, ho, rfl⟩ ⟨_, ho2, rfl⟩ F.slot_tuple_lt F.entry_tuple_lt (F.args_tuple_lt_2 _ _) (tuple_ltFirst l b items items2 n n2 dd dd2 sl sl2 e r)
    ⟨ho, ho2, he, hr, ⟨(fun x => nomatch x), h⟩⟩ hu

end Ob
namespace PySem.W
open PySem PySem.SeqAt PyProof.Rows
mutual
def semi : PyData → PyData → Bool
  | .bool _, .bool _ => true
  | .int _, .int _ => true
  | .str _, .str _ => true
  | .tuple xs, .tuple ys => semiAll xs ys
  | _, _ => false
def semiAll : List PyData → List PyData → Bool
  | x :: xs, y :: ys => if PyData.eqv x y = true then semiAll xs ys else semi x y
  | [], _ => true
  | _ :: _, [] => true
end
theorem semiAll_yes {x y : PyData} {xs ys : List PyData} (h : semiAll (x :: xs) (y :: ys) = true) (e : PyData.eqv x y = true) : semiAll xs ys = true := by
  rw [semiAll, if_pos e] at h; exact h
theorem semiAll_no {x y : PyData} {xs ys : List PyData} (h : semiAll (x :: xs) (y :: ys) = true) (e : PyData.eqv x y = false) : semi x y = true := by
  rw [semiAll, if_neg (by rw [e]; decide)] at h; exact h
mutual
theorem toks_eqS : ∀ (x y : PyData), PyData.eqv x y = true → keyToks x = keyToks y
  | .none, y, h => by cases y <;> simp [PyData.eqv] at h; rfl
  | .bool a, y, h => by
    cases y <;> simp [PyData.eqv] at h
    · subst h; rfl
    · rename_i j; cases a <;> simp at h <;> simp [keyToks, ← h]
  | .int a, y, h => by
    cases y <;> simp [PyData.eqv] at h
    · rename_i j; cases j <;> simp at h <;> simp [keyToks, h]
    · subst h; rfl
  | .str a, y, h => by
    cases y <;> simp [PyData.eqv] at h
    subst h; rfl
  | .list xs, y, h => by
    cases y <;> simp only [PyData.eqv] at h <;> first | cases h | skip
    simp only [keyToks]
    exact toksAll_eqS xs _ h
  | .tuple xs, y, h => by
    cases y <;> simp only [PyData.eqv] at h <;> first | cases h | skip
    simp only [keyToks]
    exact toksAll_eqS xs _ h
  | .dict _, y, h => by cases y <;> simp [PyData.eqv] at h
theorem toksAll_eqS : ∀ (xs ys : List PyData), PyData.eqvAll xs ys = true → keyToksAll xs = keyToksAll ys
  | [], [], _ => rfl
  | [], _ :: _, h => by simp [PyData.eqvAll] at h
  | _ :: _, [], h => by simp [PyData.eqvAll] at h
  | x :: xs, y :: ys, h => by
    rw [eqv_all_cons, Bool.and_eq_true] at h
    rw [toks_all_cons, toks_all_cons, toks_eqS x y h.1, toksAll_eqS xs ys h.2]
end
mutual
theorem toks_neS : ∀ (x y : PyData), semi x y = true → PyData.eqv x y = false → ∀ l m, PyProof.Rows.lexLt itemOrd (keyToks x ++ l) (keyToks y ++ m) = PyProof.Rows.lexLt itemOrd (keyToks x) (keyToks y)
  | .none, y, h, _ => absurd h (by cases y <;> simp [semi])
  | .bool a, y, h, e => by
    cases y with
    | bool b => exact (toks_eqv (.bool a) (.bool b) rfl).2 e
    | _ => exact absurd h (by simp [semi])
  | .int a, y, h, e => by
    cases y with
    | int b => exact (toks_eqv (.int a) (.int b) rfl).2 e
    | _ => exact absurd h (by simp [semi])
  | .str a, y, h, e => by
    cases y with
    | str b => exact (toks_eqv (.str a) (.str b) rfl).2 e
    | _ => exact absurd h (by simp [semi])
  | .list xs, y, h, e => absurd h (by cases y <;> simp [semi])
  | .tuple xs, y, h, e => by
    cases y with
    | tuple ys => simp only [keyToks, PyData.eqv, semi] at h e ⊢; exact toksAll_neS xs ys h e
    | _ => exact absurd h (by simp [semi])
  | .dict _, y, h, _ => absurd h (by cases y <;> simp [semi])
theorem toksAll_neS : ∀ (xs ys : List PyData), semiAll xs ys = true → PyData.eqvAll xs ys = false → ∀ l m, PyProof.Rows.lexLt itemOrd (keyToksAll xs ++ l) (keyToksAll ys ++ m) = PyProof.Rows.lexLt itemOrd (keyToksAll xs) (keyToksAll ys)
  | [], [], _, e => absurd e (by simp [PyData.eqvAll])
  | [], y :: ys, _, _ => fun l m => by
    rw [toks_all_cons]
    simp only [keyToksAll, List.cons_append, List.nil_append]
    rw [lex_diff (O := itemOrd) (by simp), lex_diff (O := itemOrd) (by simp)]
  | x :: xs, [], _, _ => fun l m => by
    rw [toks_all_cons]
    simp only [keyToksAll, List.cons_append, List.nil_append]
    rw [lex_diff (O := itemOrd) (by simp), lex_diff (O := itemOrd) (by simp)]
  | x :: xs, y :: ys, h, e => fun l m => by
    rw [toks_all_cons, toks_all_cons]
    simp only [List.cons_append, List.append_assoc]
    rw [lex_self (O := itemOrd), lex_self (O := itemOrd)]
    cases hx : PyData.eqv x y with
    | true =>
      rw [toks_eqS x y hx, lex_pre, lex_pre]
      rw [eqv_all_cons, hx, Bool.true_and] at e
      exact toksAll_neS xs ys (semiAll_yes h hx) e l m
    | false =>
      have hs := semiAll_no h hx
      rw [toks_neS x y hs hx, toks_neS x y hs hx]
end
theorem dataLt_yesS {x y : PyData} {xs ys : List PyData} (e : PyData.eqv x y = true) : PyProof.Rows.lexLt itemOrd (keyToksAll (x :: xs)) (keyToksAll (y :: ys)) = PyProof.Rows.lexLt itemOrd (keyToksAll xs) (keyToksAll ys) := by
  rw [toks_all_cons, toks_all_cons, toks_eqS x y e]
  exact (lex_self (O := itemOrd) _ _ _).trans (lex_pre _ _ _)
theorem dataLt_noS {x y : PyData} {xs ys : List PyData} (h : semi x y = true) (e : PyData.eqv x y = false) : PyProof.Rows.lexLt itemOrd (keyToksAll (x :: xs)) (keyToksAll (y :: ys)) = dataLt x y := by
  rw [toks_all_cons, toks_all_cons]
  exact (lex_self (O := itemOrd) _ _ _).trans (toks_neS x y h e _ _)
theorem firstLt_toksS : ∀ (xs ys : List PyData), semiAll xs ys = true →
    firstLt (pairEq xs ys) (fun j => dataLt (xs.getD j .none) (ys.getD j .none)) (decide (xs.length < ys.length)) (List.range (min xs.length ys.length)) = PyProof.Rows.lexLt itemOrd (keyToksAll xs) (keyToksAll ys)
  | [], [], _ => firstLt_toks [] [] rfl
  | [], y :: ys, _ => firstLt_toks [] (y :: ys) (by simp [alikeAll])
  | x :: xs, [], _ => firstLt_toks (x :: xs) [] (by simp [alikeAll])
  | x :: xs, y :: ys, h => by
    have em : min (x :: xs).length (y :: ys).length = min xs.length ys.length + 1 := by
      rw [List.length_cons, List.length_cons]
      omega
    have ed : decide ((x :: xs).length < (y :: ys).length) = decide (xs.length < ys.length) := by
      rw [List.length_cons, List.length_cons]
      exact decide_eq_decide.mpr (by omega)
    rw [em, ed, List.range_succ_eq_map]
    cases hx : PyData.eqv x y with
    | true =>
      have ih := firstLt_toksS xs ys (semiAll_yes h hx)
      rw [firstLt_yes (show pairEq (x :: xs) (y :: ys) 0 = true from hx), firstLt_map, dataLt_yesS hx, ← ih]
      rfl
    | false =>
      rw [firstLt_no (show pairEq (x :: xs) (y :: ys) 0 = false from hx), dataLt_noS (semiAll_no h hx) hx]
      rfl
theorem lexAt_toks : ∀ (xs ys : List PyData) (i : Nat) (e r : Nat → Bool), semiAll xs ys = true → (∀ j, j < min xs.length ys.length → e (i + j) = pairEq xs ys j) → (∀ j, j < min xs.length ys.length → r (i + j) = dataLt (xs.getD j .none) (ys.getD j .none)) →
    Ob.lexAt e r (decide (xs.length < ys.length)) i (min xs.length ys.length) = PyProof.Rows.lexLt itemOrd (keyToksAll xs) (keyToksAll ys)
  | [], [], _, _, _, _, _, _ => by rw [show min ([] : List PyData).length ([] : List PyData).length = 0 from rfl, Ob.lexAt_zero]; simp [lex_irrefl]
  | [], y :: ys, _, _, _, _, _, _ => by
    rw [show min ([] : List PyData).length (y :: ys).length = 0 by simp, Ob.lexAt_zero, toks_all_cons]
    simp only [keyToksAll]
    rw [lex_diff (O := itemOrd) (by simp)]
    simp [itemLt]
  | x :: xs, [], _, _, _, _, _, _ => by
    rw [show min (x :: xs).length ([] : List PyData).length = 0 by simp, Ob.lexAt_zero, toks_all_cons]
    simp only [keyToksAll]
    rw [lex_diff (O := itemOrd) (by simp)]
    simp [itemLt]
  | x :: xs, y :: ys, i, e, r, h, he, hr => by
    have em : min (x :: xs).length (y :: ys).length = min xs.length ys.length + 1 := by
      rw [List.length_cons, List.length_cons]
      omega
    have ed : decide ((x :: xs).length < (y :: ys).length) = decide (xs.length < ys.length) := by
      rw [List.length_cons, List.length_cons]
      exact decide_eq_decide.mpr (by omega)
    rw [em] at he hr ⊢
    rw [ed, Ob.lexAt_succ]
    have e0 : e i = PyData.eqv x y := he 0 (Nat.succ_pos _)
    have r0 : r i = dataLt x y := hr 0 (Nat.succ_pos _)
    rw [e0, r0]
    cases hx : PyData.eqv x y with
    | true =>
      rw [if_pos rfl, dataLt_yesS hx]
      refine lexAt_toks xs ys (i + 1) e r (semiAll_yes h hx) (fun j hj => ?_) (fun j hj => ?_)
      · rw [show i + 1 + j = i + (j + 1) by omega]; exact he (j + 1) (by omega)
      · rw [show i + 1 + j = i + (j + 1) by omega]; exact hr (j + 1) (by omega)
    | false =>
      rw [if_neg (by decide), dataLt_noS (semiAll_no h hx) hx]
theorem semi_at : ∀ (xs ys : List PyData) (j : Nat), semiAll xs ys = true → j < xs.length → j < ys.length → (∀ k < j, pairEq xs ys k = true) → pairEq xs ys j = false → semi (xs.getD j .none) (ys.getD j .none) = true
  | [], _, _, _, h1, _, _, _ => absurd h1 (Nat.not_lt_zero _)
  | _ :: _, [], _, _, _, h2, _, _ => absurd h2 (Nat.not_lt_zero _)
  | x :: xs, y :: ys, 0, h, _, _, _, hj => semiAll_no h hj
  | x :: xs, y :: ys, j + 1, h, h1, h2, hk, hj =>
    semi_at xs ys j (semiAll_yes h (hk 0 (Nat.succ_pos _))) (Nat.lt_of_succ_lt_succ h1) (Nat.lt_of_succ_lt_succ h2) (fun k hkj => hk (k + 1) (Nat.succ_lt_succ hkj)) hj
theorem canLay_at {xs : List PyData} (h : PyData.canLayAll0 xs = true) {x : PyData} (hx : x ∈ xs) : x.canLay0 = true := by
  induction xs with
  | nil => cases hx
  | cons y ys ih =>
    simp only [PyData.canLayAll0, Bool.and_eq_true] at h
    rcases List.mem_cons.mp hx with rfl | hx
    · exact h.1
    · exact ih h.2 hx
theorem depth_at {xs : List PyData} {x : PyData} (hx : x ∈ xs) : x.depth ≤ PyData.depthAll xs := by
  induction xs with
  | nil => cases hx
  | cons y ys ih =>
    simp only [PyData.depthAll]
    rcases List.mem_cons.mp hx with rfl | hx
    · omega
    · have := ih hx; omega
theorem reads_at {h : Heap} : ∀ {vs : List Value} {xs : List PyData} {as : List Addr} (j : Nat) (h1 : j < vs.length) (h2 : j < xs.length), ReadsAll h vs xs as → ∃ bs, Reads h vs[j] xs[j] bs
  | _, _, _, 0, _, _, .cons r _ => ⟨_, r⟩
  | _, _, _, j + 1, h1, h2, .cons _ t => reads_at j (Nat.lt_of_succ_lt_succ h1) (Nat.lt_of_succ_lt_succ h2) t
  | _, _, _, _, h1, _, .nil => absurd h1 (Nat.not_lt_zero _)
theorem rcLt_semi : ∀ (n : Nat) (da db : PyData) (A : Around) (s : Shared) (a b : Value) (as bs : List Addr), da.depth ≤ n → Reads s.heap a da as → Reads s.heap b db bs → semi da db = true → da.canLay0 = true → db.canLay0 = true → A.units + n < cLine → Ob.RcOp .Lt A s a b (dataLt da db) := by
  intro n
  induction n with
  | zero =>
    intro da db A s a b as bs hd ra rb h ca cb hu
    cases da with
    | tuple xs => simp [PyData.depth] at hd
    | bool x => cases db <;> first | exact rcLt_alike (.bool x) (.bool _) A s a b as bs ra rb rfl (fun e => nomatch e) (by simp [PyData.depth]; omega) | exact absurd h (by simp [semi])
    | int x => cases db <;> first | exact rcLt_alike (.int x) (.int _) A s a b as bs ra rb rfl (fun e => nomatch e) (by simp [PyData.depth]; omega) | exact absurd h (by simp [semi])
    | str x => cases db <;> first | exact rcLt_alike (.str x) (.str _) A s a b as bs ra rb rfl (fun e => nomatch e) (by simp [PyData.depth]; omega) | exact absurd h (by simp [semi])
    | none => exact absurd h (by cases db <;> simp [semi])
    | list xs => exact absurd h (by cases db <;> simp [semi])
    | dict xs => exact absurd h (by cases db <;> simp [semi])
  | succ n ih =>
    intro da db A s a b as bs hd ra rb h ca cb hu
    cases da with
    | bool x => cases db <;> first | exact rcLt_alike (.bool x) (.bool _) A s a b as bs ra rb rfl (fun e => nomatch e) (by simp [PyData.depth]; omega) | exact absurd h (by simp [semi])
    | int x => cases db <;> first | exact rcLt_alike (.int x) (.int _) A s a b as bs ra rb rfl (fun e => nomatch e) (by simp [PyData.depth]; omega) | exact absurd h (by simp [semi])
    | str x => cases db <;> first | exact rcLt_alike (.str x) (.str _) A s a b as bs ra rb rfl (fun e => nomatch e) (by simp [PyData.depth]; omega) | exact absurd h (by simp [semi])
    | none => exact absurd h (by cases db <;> simp [semi])
    | list xs => exact absurd h (by cases db <;> simp [semi])
    | dict xs => exact absurd h (by cases db <;> simp [semi])
    | tuple xs =>
      cases db with
      | tuple ys =>
        have hal : semiAll xs ys = true := by simpa [semi] using h
        have ca' : PyData.canLayAll0 xs = true := by simpa [PyData.canLay0] using ca
        have cb' : PyData.canLayAll0 ys = true := by simpa [PyData.canLay0] using cb
        have hd' : PyData.depthAll xs ≤ n := by simp only [PyData.depth] at hd; omega
        cases ra with
        | @tuple l o vs m _ as₁ h1 h2 h3 h4 =>
          cases rb with
          | @tuple l' o' vs' m' _ bs₁ k1 k2 k3 k4 =>
            have n1 : vs.size = xs.length := by simpa using ReadsAll.length _ _ _ h4
            have n2 : vs'.size = ys.length := by simpa using ReadsAll.length _ _ _ k4
            have key := Ob.RcOp.tuples_ltFirst (A := A) (s := s) (e := pairEq xs ys) (r := fun j => dataLt (xs.getD j .none) (ys.getD j .none)) ⟨_, h1, h2, _, h3⟩ ⟨_, k1, k2, _, k3⟩ (by omega) (fun j j1 j2 => ?_) (fun j j1 j2 hbef hj => ?_)
            · rw [n1, n2, lexAt_toks xs ys 0 _ _ hal (fun j _ => by rw [Nat.zero_add]) (fun j _ => by rw [Nat.zero_add]), ← dataLt_tuple] at key
              exact key
            · have := eqAt_readsAll xs ys A.in1 s vs.toList vs'.toList _ _ h4 k4 ca' cb' (by show A.units + 1 + _ < cLine; have : min (PyData.depthAll xs) (PyData.depthAll ys) ≤ PyData.depthAll xs := Nat.min_le_left _ _; omega) j (by simpa using j1) (by simpa using j2)
              simpa using this
            · have x1 : j < xs.length := by omega
              have y1 : j < ys.length := by omega
              obtain ⟨as2, r1⟩ := reads_at j (by simpa using j1) x1 h4
              obtain ⟨bs2, r2⟩ := reads_at j (by simpa using j2) y1 k4
              have sm := semi_at xs ys j hal x1 y1 hbef hj
              have ex : xs.getD j .none = xs[j] := by simp [x1]
              have ey : ys.getD j .none = ys[j] := by simp [y1]
              rw [ex, ey] at sm
              have := ih xs[j] ys[j] A.in1 s _ _ as2 bs2 (Nat.le_trans (depth_at (List.getElem_mem x1)) hd') r1 r2 sm (canLay_at ca' (List.getElem_mem x1)) (canLay_at cb' (List.getElem_mem y1)) (by show A.units + 1 + n < cLine; omega)
              show Ob.RcOp .Lt A.in1 s vs[j] vs'[j] (dataLt (xs.getD j .none) (ys.getD j .none))
              rw [ex, ey]
              simpa using this
      | _ => exact absurd h (by simp [semi])
mutual
theorem reads_unique {h : Heap} : ∀ (d d' : PyData) (v : Value) (as as' : List Addr), d.canLay0 = true → d'.canLay0 = true → Reads h v d as → Reads h v d' as' → d = d'
  | .none, _, _, _, _, _, _, r, r' => by cases r; cases r'; rfl
  | .bool _, _, _, _, _, _, _, r, r' => by cases r; cases r'; rfl
  | .int _, _, _, _, _, _, _, r, r' => by cases r; cases r'; rfl
  | .str _, _, _, _, _, _, _, r, r' => by cases r; cases r'; rfl
  | .list xs, d', _, _, _, c, c', r, r' => by
    cases r with
    | list h1 h2 h3 h4 =>
      cases r' with
      | list k1 k2 k3 k4 =>
        rw [h1] at k1; cases k1
        rw [h3] at k3; cases k3
        rw [readsAll_unique xs _ _ _ _ (by simpa [PyData.canLay0] using c) (by simpa [PyData.canLay0] using c') h4 k4]
      | tuple k1 k2 k3 k4 => rw [h1] at k1; cases k1; rw [h2] at k2; exact absurd k2 (by decide)
      | dict k1 k2 k3 k4 k5 => exact absurd c' (by simp [PyData.canLay0])
  | .tuple xs, d', _, _, _, c, c', r, r' => by
    cases r with
    | tuple h1 h2 h3 h4 =>
      cases r' with
      | tuple k1 k2 k3 k4 =>
        rw [h1] at k1; cases k1
        rw [h3] at k3; cases k3
        rw [readsAll_unique xs _ _ _ _ (by simpa [PyData.canLay0] using c) (by simpa [PyData.canLay0] using c') h4 k4]
      | list k1 k2 k3 k4 => rw [h1] at k1; cases k1; rw [h2] at k2; exact absurd k2 (by decide)
      | dict k1 k2 k3 k4 k5 => exact absurd c' (by simp [PyData.canLay0])
  | .dict _, _, _, _, _, c, _, _, _ => absurd c (by simp [PyData.canLay0])
theorem readsAll_unique {h : Heap} : ∀ (xs ys : List PyData) (vs : List Value) (as as' : List Addr), PyData.canLayAll0 xs = true → PyData.canLayAll0 ys = true → ReadsAll h vs xs as → ReadsAll h vs ys as' → xs = ys
  | [], _, _, _, _, _, _, r, r' => by cases r; cases r'; rfl
  | x :: xs, [], _, _, _, _, _, r, r' => by cases r'; cases r
  | x :: xs, y :: ys, _, _, _, c, c', r, r' => by
    simp only [PyData.canLayAll0, Bool.and_eq_true] at c c'
    cases r with
    | cons h1 h2 =>
      cases r' with
      | cons k1 k2 => rw [reads_unique x y _ _ _ c.1 c'.1 h1 k1, readsAll_unique xs ys _ _ _ c.2 c'.2 h2 k2]
end
section
variable {prog : Program} {w : World} {A : Around} {E : Value → Shared → Prop} {s : Shared}
theorem oneLt_semi {f : Bool} {n : Nat} {da db : PyData} {a b : Value} {as bs : List Addr} {Q : Bool → Shared → Prop} (hf : f = true → ∀ xs, da ≠ .tuple xs) (hd : da.depth ≤ n) (ra : Reads s.heap a da as) (rb : Reads s.heap b db bs) (h : semi da db = true) (ca : da.canLay0 = true) (cb : db.canLay0 = true)
    (hu : A.units + n < cLine) (hq : Q (dataLt da db) s) : wpAny (model prog w) A (oneLt' f a b) Q E s := by
  cases f with
  | false =>
    rw [oneLt'_eq]
    simp only [Bool.false_eq_true, if_false]
    exact wpAny_bind (rcLt_semi n da db A s a b as bs hd ra rb h ca cb hu prog w E _ (wpAny_truthy_bool hq))
  | true =>
    have hal : alike da db = true ∧ da ≠ .none := by
      cases da with
      | tuple xs => exact absurd rfl (hf rfl xs)
      | bool x => cases db <;> first | exact ⟨rfl, fun e => nomatch e⟩ | exact absurd h (by simp [semi])
      | int x => cases db <;> first | exact ⟨rfl, fun e => nomatch e⟩ | exact absurd h (by simp [semi])
      | str x => cases db <;> first | exact ⟨rfl, fun e => nomatch e⟩ | exact absurd h (by simp [semi])
      | none => exact absurd h (by cases db <;> simp [semi])
      | list xs => exact absurd h (by cases db <;> simp [semi])
      | dict xs => exact absurd h (by cases db <;> simp [semi])
    exact oneLt_alike hf ra rb hal.1 hal.2 (by have : min da.depth db.depth ≤ da.depth := Nat.min_le_left _ _; omega) hq
theorem katLex_semi {b fin : Bool} {n : Nat} {Q : Bool → Shared → Prop} : ∀ (xs ys : List PyData) (i : Nat) (vs ws : List Value) (as bs : List Addr), ReadsAll s.heap vs xs as → ReadsAll s.heap ws ys bs → semiAll xs ys = true → PyData.canLayAll0 xs = true → PyData.canLayAll0 ys = true →
    PyData.depthAll xs ≤ n → A.units + n < cLine → (b = true → i = 0 → ∀ x r t, xs = x :: r → x ≠ .tuple t) → fin = decide (xs.length < ys.length) → Q (PyProof.Rows.lexLt itemOrd (keyToksAll xs) (keyToksAll ys)) s → KatLex prog w A b fin Q (vs.zip ws) i s
  | [], ys, i, _, _, _, _, ra, rb, h, _, _, _, hu, hf, hfin, hq => by
    cases ra
    cases ys with
    | nil =>
      cases rb
      have e : fin = false := by rw [hfin]; rfl
      subst e
      rw [lex_irrefl] at hq
      exact kat_nil hq
    | cons y ys =>
      have e : fin = true := by rw [hfin]; exact decide_eq_true (Nat.succ_pos _)
      subst e
      rw [toks_all_cons] at hq
      simp only [keyToksAll] at hq
      rw [lex_diff (O := itemOrd) (by simp)] at hq
      rw [List.zip_nil_left]
      exact kat_nil (by simpa [itemLt] using hq)
  | x :: xs, [], i, _, _, _, _, ra, rb, h, _, _, _, hu, hf, hfin, hq => by
    cases rb
    have e : fin = false := by rw [hfin]; exact decide_eq_false (Nat.not_lt_zero _)
    subst e
    rw [toks_all_cons] at hq
    simp only [keyToksAll] at hq
    rw [lex_diff (O := itemOrd) (by simp)] at hq
    rw [List.zip_nil_right]
    exact kat_nil (by simpa [itemLt] using hq)
  | x :: xs, y :: ys, i, _, _, _, _, ra, rb, h, ca, cb, hd, hu, hb, hfin, hq => by
    simp only [PyData.canLayAll0, Bool.and_eq_true] at ca cb
    simp only [PyData.depthAll] at hd
    have hf' : fin = decide (xs.length < ys.length) := by
      rw [hfin]
      simp only [List.length_cons, Nat.add_lt_add_iff_right]
    cases ra with
    | cons r rs =>
      cases rb with
      | cons r' rs' =>
        rw [List.zip_cons_cons]
        refine kat_cons (eqAt_reads x y A s _ _ _ _ r r' ca.1 cb.1 (by have : min x.depth y.depth ≤ x.depth := Nat.min_le_left _ _; omega) prog w _ _ ?_)
        cases hx : PyData.eqv x y with
        | true =>
          rw [dataLt_yesS hx] at hq
          exact kat_yes (katLex_semi xs ys (i + 1) _ _ _ _ rs rs' (semiAll_yes h hx) ca.2 cb.2 (by omega) hu (fun _ hi => absurd hi (Nat.succ_ne_zero i)) hf' hq)
        | false =>
          rw [dataLt_noS (semiAll_no h hx) hx] at hq
          refine kat_no (oneLt_semi (n := n) (fun hbi t => ?_) (by omega) r r' (semiAll_no h hx) ca.1 cb.1 hu hq)
          rw [Bool.and_eq_true] at hbi
          exact hb hbi.1 (by simpa using hbi.2) x xs t rfl
end
structure SemiOk (ds : List PyData) : Prop where
  sm : ∀ d ∈ ds, ∀ d' ∈ ds, semi d d' = true
  ne : ∀ d ∈ ds, ∃ x r, d = .tuple (x :: r)
  ty : ∀ x r x' r', PyData.tuple (x :: r) ∈ ds → PyData.tuple (x' :: r') ∈ ds → dataType x = dataType x'
  ly : ∀ d ∈ ds, d.canLay0 = true
  dp : ∀ d ∈ ds, d.depth ≤ 60
theorem dataKind_someS {h : Heap} {ds : List PyData} (hl : ∀ d ∈ ds, d.canLay0 = true) {v : Value} {d : PyData} {as : List Addr} (hd : d ∈ ds) (r : Reads h v d as) : (dataKind h ds).keyOf v = some (keyToks d) := by
  have q : ∃ d, d ∈ ds ∧ ∃ as, Reads h v d as := ⟨d, hd, as, r⟩
  have e : (dataKind h ds).keyOf v = some (keyToks q.choose) := by
    show (open Classical in if q : ∃ d, d ∈ ds ∧ ∃ as, Reads h v d as then some (keyToks q.choose) else none) = _
    rw [dif_pos q]
  obtain ⟨h1, as', h2⟩ := q.choose_spec
  rw [e, reads_unique _ _ _ _ _ (hl _ h1) (hl _ hd) h2 r]
section
variable {prog : Program} {w : World} {A : Around} {s : Shared}
theorem SortsAt.semi {vs : List Value} {ds : List PyData} (e : EachIs (fun v d => ∃ as, Reads s.heap v d as) vs ds) (ok : SemiOk ds) (hu : A.units + 60 < cLine) : SortsAt prog w A s (dataKind s.heap ds) vs := by
  refine ⟨fun v hv => ?_, ?_⟩
  · obtain ⟨d, hd, as, r⟩ := e.left v hv
    exact ⟨_, dataKind_someS ok.ly hd r⟩
  · cases ds with
    | nil =>
      cases e
      exact ⟨general', fun E x y a b Q ha _ _ => (by
        obtain ⟨d, _, hd, _⟩ := dataKind_inv ha
        exact absurd hd (by simp)), fun h2 => absurd h2 (by simp)⟩
    | cons d₀ ds₀ =>
      obtain ⟨x₀, r₀, e₀⟩ := ok.ne d₀ (List.mem_cons_self ..)
      have hm0 : PyData.tuple (x₀ :: r₀) ∈ d₀ :: ds₀ := by rw [← e₀]; exact List.mem_cons_self ..
      refine ⟨tuples' (dataType x₀ != Value.type "tuple"), ?_, fun h2 E Q hq => ?_⟩
      · intro E x y a b Q ha hb hq
        obtain ⟨d, as, hd, ra, rfl⟩ := dataKind_inv ha
        obtain ⟨d', as', hd', rb, rfl⟩ := dataKind_inv hb
        have hdd := ok.sm d hd d' hd'
        have c1 := ok.ly d hd
        have c2 := ok.ly d' hd'
        have dp := ok.dp d hd
        obtain ⟨x1, r1, rfl⟩ := ok.ne d hd
        obtain ⟨x2, r2, rfl⟩ := ok.ne d' hd'
        have hq' : Q (dataLt (.tuple (x1 :: r1)) (.tuple (x2 :: r2))) s := hq
        rw [dataLt_tuple] at hq'
        cases ra with
        | @tuple l o xs n _ _ h1 h2 h3 h4 =>
          cases rb with
          | @tuple l' o' xs' n' _ _ k1 k2 k3 k4 =>
            have n1 : xs.size = (x1 :: r1).length := by simpa using SeqAt.ReadsAll.length _ _ _ h4
            have n2 : xs'.size = (x2 :: r2).length := by simpa using SeqAt.ReadsAll.length _ _ _ k4
            refine kat_lt h1 h3 k1 k3 (katLex_semi (n := 60) (x1 :: r1) (x2 :: r2) 0 _ _ _ _ h4 k4 (by simpa [PySem.W.semi] using hdd) (by simpa [PyData.canLay0] using c1) (by simpa [PyData.canLay0] using c2) (by simp only [PyData.depth] at dp; omega) hu (fun hb _ x r t ex => ?_) (by rw [n1, n2]) hq')
            obtain ⟨rfl, rfl⟩ := List.cons.inj ex
            rw [ok.ty _ _ _ _ hm0 hd] at hb
            exact dataType_tuple hb t
      · obtain ⟨fs, t1, t2, t3⟩ := each_katTups e ok.ne
        refine kat_kind (T := dataType x₀) t1 (by omega) (fun f hf => ?_) (beq_self_eq_true _) hq
        obtain ⟨x, r, as, m1, m2⟩ := t3 f hf
        rw [ok.ty _ _ _ _ hm0 m1]
        exact looks_reads m2
end
end PySem.W
namespace DL
open PySem PySem.Spec L2 RZ
open PyProof.Rows hiding St
def sortSD : List DV → Mem → DQ → Prop
  | [.d (.list xs)], M, Q => PySem.W.SemiOk xs ∧ Q (.d (.list (sortedL xs))) M
  | _, _, _ => False
def sortSM : List DV → Mem → DQ → Prop
  | [.d (.list xs)], M, Q => PySem.W.SemiOk xs ∧ ∀ p, M p = none → Q (.r p) (mupd M p (.lst ((sortedL xs).map .d)))
  | _, _, _ => False
theorem sortSD_e1 {xs M Q} : sortSD [.d (.list xs)] M Q = (PySem.W.SemiOk xs ∧ Q (.d (.list (sortedL xs))) M) := rfl
theorem sortSM_e1 {xs M Q} : sortSM [.d (.list xs)] M Q = (PySem.W.SemiOk xs ∧ ∀ p, M p = none → Q (.r p) (mupd M p (.lst ((sortedL xs).map .d)))) := rfl
section
variable {X : Cx}
theorem each_keysS {h : Heap} {ds : List PyData} (hl : ∀ d ∈ ds, d.canLay0 = true) {vs : List Value} (e : PySem.W.EachIs (fun v d => ∃ as, Reads h v d as) vs ds) : PySem.W.EachIs (fun v d => (PySem.W.dataKind h ds).keyOf v = some (PySem.W.keyToks d)) vs ds :=
  (PySem.W.each_mem e).mono fun _ _ ⟨⟨_, r⟩, hd⟩ => PySem.W.dataKind_someS hl hd r
theorem sorted_runS (hu : X.A.units + 64 < cLine) {pins : List (Addr × Obj)} {σ : St} {H : Hp} {M : Mem} {s : Shared} {Q : VK} {a : Addr} {xs : List V} {ds : List PyData} (I : Inv X pins σ H s) (hs : SqL X.K H a xs) (ra : RepA X.K H M xs ds) (ok : PySem.W.SemiOk ds)
    (q : ∀ p vs, H p = none → RepA X.K H M vs (sortedL ds) → Q (.ref p) (upd H p (.lst vs))) : wpAny (model X.prog X.w) X.A (call (.builtin "sorted") [.ref a]) (EP X pins σ Q) X.xe s := by
  obtain ⟨its, rv, hl, hz⟩ := I.list hs
  have hz' : its.length ≤ sizeLine := by rw [← rv.length]; exact hz
  have er := each_reads I (h' := PySem.W.sortingHeap (PySem.W.copyHeap s.heap its) (s.heap.objs.size + 1) its) (fun b o e => PySem.W.sorting_copy_old e) ds xs its ra rv
  refine PySem.W.sorted_vals hl.isList (PySem.W.SortsAt.semi (s := { s with heap := _ }) er ok (by show X.A.units + 1 + 1 + 60 < cLine; omega)) hz' ?_
  have eo := PySem.W.sortVals_each (κ := PySem.W.dataKind (PySem.W.sortingHeap (PySem.W.copyHeap s.heap its) (s.heap.objs.size + 1) its) ds) (rev := false) (fun d => PySem.W.keyToks d) (each_rep ds xs its ra rv) (each_keysS ok.ly er)
  obtain ⟨vs, v1, v2⟩ := each_back eo
  obtain ⟨ep, he'⟩ := PyProof.Rows.sortedAll_at s.heap its (PySem.W.sortVals (PySem.W.dataKind (PySem.W.sortingHeap (PySem.W.copyHeap s.heap its) (s.heap.objs.size + 1) its) ds) false its its).toArray
  have hlen : vs.length ≤ sizeLine := by
    rw [v2.length, List.length_mergeSort, ← ra.length]
    exact hz
  exact ⟨.ref _, upd H (s.heap.objs.size + 1) (.lst vs), I.laid (t' := s.toks) (fun _ _ => PyProof.Rows.sortedAll_old) (Nat.le_succ _) ⟨hlen, _, ep, v1, he'⟩, rfl, q _ vs (I.hok.fresh (Nat.le_succ _)) v2⟩
theorem cd_sortedS (hu : X.A.units + 64 < cLine) : CallD X (.builtin "sorted") sortSD := by
  intro pins s σ H xs us Q I rs ⟨ds, M, Qd, R, rx, h, E⟩
  unfold sortSD at h
  split at h
  · obtain ⟨v, rfl, rv⟩ := one_inv rx
    obtain ⟨a, vs, e1, s1, _, ra⟩ := RepP.lst_inv rv
    subst e1
    rw [Vals.ref1 rs]
    exact sorted_runS hu I (SqL.of s1) ra h.1 fun p ws hp hw => E.lst R hw hp h.2
  · exact h.elim
theorem cd_sortedSM (hu : X.A.units + 64 < cLine) : CallD X (.builtin "sorted") sortSM := by
  intro pins s σ H xs us Q I rs ⟨ds, M, Qd, R, rx, h, E⟩
  unfold sortSM at h
  split at h
  · obtain ⟨v, rfl, rv⟩ := one_inv rx
    obtain ⟨a, vs, e1, s1, _, ra⟩ := RepP.lst_inv rv
    subst e1
    rw [Vals.ref1 rs]
    exact sorted_runS hu I (SqL.of s1) ra h.1 fun p ws hp hw => E.lstM R hw.toL hp (h.2 p (R.no hp))
  · exact h.elim
end
end DL
namespace L2
open PySem PySem.Spec
open PyProof.Rows hiding St
open PySem.AutoSeq1 (wpAny_loadPart')
theorem tuple_mulOne (l : Addr) (items : Array Value) (n : Nat) (dd : Option Addr) (sl : Array (Option Value)) (u : Tok) :
    Meets (Builtin.«tuple.__mul__» ⟨[.ref l, .int 1 u], []⟩) (fun _ R s => s.heap.get? l = some { cls := .type "tuple", dict := dd, data := .seq items n, slots := sl } ∧ R (.ok (.ret (Value.ref l))) s) :=
  .of_wp fun prog w A R s h => by
    obtain ⟨hp, g, d, tk, os⟩ := s
    obtain ⟨hl, h⟩ := h
    have f1 := AutoSeq1.idx_int
    have c1 : (items.isEmpty || (1 : Int) == 1) = true := by simp
    wp_walk using wpAny_loadPart' hl
    exact ⟨_, rfl, h⟩
theorem tuple_mulZero (l : Addr) (items : Array Value) (n : Nat) (dd : Option Addr) (sl : Array (Option Value)) (u : Tok) (he : items.isEmpty = false) :
    Meets (Builtin.«tuple.__mul__» ⟨[.ref l, .int 0 u], []⟩) (fun _ R s => s.heap.get? l = some { cls := .type "tuple", dict := dd, data := .seq items n, slots := sl } ∧
      R (.ok (.ret (Value.ref s.heap.objs.size))) { s with heap := s.heap.push { cls := Value.type "tuple", data := Data.seq #[] }, toks := s.toks }) :=
  .of_wp fun prog w A R s h => by
    obtain ⟨hp, g, d, tk, os⟩ := s
    obtain ⟨hl, h⟩ := h
    have f1 := AutoSeq1.idx_int
    have c1 : (items.isEmpty || (0 : Int) == 1) = false := by rw [he]; rfl
    wp_walk using wpAny_loadPart' hl
    repeat (first
      | (refine wpAny_ite_false (decide_eq_false (by rw [c1]; exact Bool.false_ne_true)) ?_; wp_walk using wpAny_loadPart' hl))
    exact ⟨_, rfl, h⟩
def rRepZero (K : PySem.W.Frag) : R2 := fun x y H Q => ∃ l xs, x = .ref l ∧ y = .int 0 ∧ SqT K H l xs ∧ xs ≠ [] ∧ ∀ p, H p = none → Q (.ref p) (upd H p (.tup []))
theorem op_repZero {X : Cx} : OpR X (binaryOp .Mult) (rRepZero X.K) := by
  intro pins s σ H x y v u Q I rx ry h
  obtain ⟨l, xs, rfl, rfl, hT, hne, q⟩ := h
  cases rx
  obtain ⟨t, rfl⟩ := ry
  obtain ⟨its, r, ⟨⟨cls, dd, data, sl⟩, ho, hc, n, hd⟩, hs⟩ := I.tuple hT
  simp only at hc hd
  subst hc hd
  have hle : its.length = xs.length := r.length.symm
  have hn : its ≠ [] := fun e => hne (by
    rw [e] at hle
    exact List.eq_nil_of_length_eq_zero hle.symm)
  have hi : its.toArray.isEmpty = false := by
    cases its with
    | nil => exact absurd rfl hn
    | cons a b => rfl
  refine wpAny_binaryOp_repeat_ref (T := "tuple") (U := "int") (by decide) ⟨_, ho, rfl⟩ (fun s' => typeIs_int s' 0 t) noFill_tuple_mul F.fills_int_mul F.slot_int_rmul repeat_tuple F.slot_int_index.lookup
    (call_meets F.slot_int_rmul (typeIs_int s 0 t) F.entry_int_rmul (F.args_int_rmul_2 _ _) (int_rmul_tuple 0 t l its.toArray n dd sl)
      ⟨ho, rfl, ⟨_, ho, rfl⟩, call_meets F.slot_tuple_mul ⟨_, ho, rfl⟩ F.entry_tuple_mul (F.args_tuple_mul_2 _ _) (tuple_mulZero l its.toArray n dd sl t hi) ⟨ho, ?_⟩⟩)
  exact ⟨.ref _, upd H s.heap.objs.size (.tup []), I.laid (t' := s.toks) (fun _ _ => Heap.get?_push_of_some _) (Nat.le_refl _) ⟨Nat.zero_le _, [], .nil, ⟨_, Heap.get?_push_size _ rfl, rfl, _, rfl⟩⟩, rfl, q _ (I.hok.fresh (Nat.le_refl _))⟩
def rRepOne (K : PySem.W.Frag) : R2 := fun x y H Q => ∃ l xs, x = .ref l ∧ y = .int 1 ∧ SqT K H l xs ∧ Q (.ref l) H
theorem op_repOne {X : Cx} : OpR X (binaryOp .Mult) (rRepOne X.K) := by
  intro pins s σ H x y v u Q I rx ry h
  obtain ⟨l, xs, rfl, rfl, hT, q⟩ := h
  cases rx
  obtain ⟨t, rfl⟩ := ry
  obtain ⟨its, r, ⟨⟨cls, dd, data, sl⟩, ho, hc, n, hd⟩, hs⟩ := I.tuple hT
  simp only at hc hd
  subst hc hd
  refine wpAny_binaryOp_repeat_ref (T := "tuple") (U := "int") (by decide) ⟨_, ho, rfl⟩ (fun s' => typeIs_int s' 1 t) noFill_tuple_mul F.fills_int_mul F.slot_int_rmul repeat_tuple F.slot_int_index.lookup
    (call_meets F.slot_int_rmul (typeIs_int s 1 t) F.entry_int_rmul (F.args_int_rmul_2 _ _) (int_rmul_tuple 1 t l its.toArray n dd sl)
      ⟨ho, rfl, ⟨_, ho, rfl⟩, call_meets F.slot_tuple_mul ⟨_, ho, rfl⟩ F.entry_tuple_mul (F.args_tuple_mul_2 _ _) (tuple_mulOne l its.toArray n dd sl t) ⟨ho, ?_⟩⟩)
  exact ⟨.ref l, H, I, rfl, q⟩
end L2
namespace DL
open PySem PySem.Spec L2 RZ
open PyProof.Rows hiding St
def repD : DV → DV → Mem → DQ → Prop
  | .d (.tuple xs), .d (.int k), M, Q => xs ≠ [] ∧ 0 ≤ k ∧ k ≤ 1000 ∧ xs.length ≤ 1000 ∧ Q (.d (.tuple (List.replicate k.toNat xs).flatten)) M
  | _, _, _, _ => False
theorem repD_e1 {xs k M Q} : repD (.d (.tuple xs)) (.d (.int k)) M Q = (xs ≠ [] ∧ 0 ≤ k ∧ k ≤ 1000 ∧ xs.length ≤ 1000 ∧ Q (.d (.tuple (List.replicate k.toNat xs).flatten)) M) := rfl
theorem RepA.rep {K : PySem.W.Frag} {H : Hp} {M : Mem} {vs : List V} {ds : List PyData} (h : RepA K H M vs ds) : ∀ n : Nat, RepA K H M (List.replicate n vs).flatten (List.replicate n ds).flatten
  | 0 => .nil
  | n + 1 => by
    rw [List.replicate_succ, List.replicate_succ, List.flatten_cons, List.flatten_cons]
    exact h.append (RepA.rep h n)
theorem od_repT {X : Cx} : OpD X (binaryOp .Mult) repD :=
  opR_imp (op_repZero.or (op_repOne.or op_repT)) fun x y H Q ⟨dx, dy, M, Qd, R, rx, ry, q, E⟩ => by
    unfold repD at q
    split at q
    · rename_i ds k
      obtain ⟨hne, h1, h2, hl, q⟩ := q
      have rx' : RepP X.K H M x (.tuple ds) := rx
      obtain ⟨a, xs, e, s, ra⟩ := RepP.tup_inv rx'
      have ry' := RepP.int_inv ry
      by_cases hk0 : k = 0
      · subst hk0
        refine .inl ⟨a, xs, e, ry', s, fun z => hne (ra.nil_iff.mp z), fun p hp => E.tup R .nil hp q⟩
      by_cases hk : k = 1
      · subst hk
        refine .inr (.inl ⟨a, xs, e, ry', s, ?_⟩)
        have e1 : (List.replicate (1 : Int).toNat ds).flatten = ds := by simp
        rw [e1] at q
        rw [e] at rx'
        exact E (.d (.tuple ds)) _ _ _ (Keep.refl _ _) R rx' q
      · refine .inr (.inr ⟨a, k, xs, e, ry', s, fun z => hne (ra.nil_iff.mp z), by omega, h2, by rw [ra.length]; exact hl, fun p hp => E.tup R (ra.rep k.toNat) hp q⟩)
    · exact q.elim
end DL
namespace DL
open PySem PySem.Spec L2 RZ
open PyProof.Rows hiding St
def repLD : DV → DV → Mem → DQ → Prop
  | .d (.list xs), .d (.int k), M, Q => 0 ≤ k ∧ k ≤ 1000 ∧ xs.length ≤ 1000 ∧ Q (.d (.list (List.replicate k.toNat xs).flatten)) M
  | _, _, _, _ => False
theorem repLD_e1 {xs k M Q} : repLD (.d (.list xs)) (.d (.int k)) M Q = (0 ≤ k ∧ k ≤ 1000 ∧ xs.length ≤ 1000 ∧ Q (.d (.list (List.replicate k.toNat xs).flatten)) M) := rfl
theorem od_repL {X : Cx} : OpD X (binaryOp .Mult) repLD :=
  opR_imp op_rep fun x y H Q ⟨dx, dy, M, Qd, R, rx, ry, q, E⟩ => by
    unfold repLD at q
    split at q
    · rename_i ds k
      obtain ⟨h1, h2, hl, q⟩ := q
      have rx' : RepP X.K H M x (.list ds) := rx
      obtain ⟨a, xs, e, s, _, ra⟩ := RepP.lst_inv rx'
      have ry' := RepP.int_inv ry
      refine ⟨a, k, xs, e, ry', s, by omega, by omega, ?_, fun p hp => E.lst R (ra.rep k.toNat) hp q⟩
      rw [ra.length, sizeLine_eq]
      have a1 : ds.length * k.toNat ≤ 1000 * 1000 := Nat.mul_le_mul hl (by omega)
      omega
    · exact q.elim
def intBD : List DV → Mem → DQ → Prop
  | [.d (.int i)], M, Q => Q (.d (.int i)) M
  | [.d (.bool b)], M, Q => Q (.d (.int (if b then 1 else 0))) M
  | _, M, Q => False
theorem intBD_e1 {i M Q} : intBD [.d (.int i)] M Q = Q (.d (.int i)) M := rfl
theorem intBD_e2 {b M Q} : intBD [.d (.bool b)] M Q = Q (.d (.int (if b then 1 else 0))) M := rfl
theorem cd_intB {X : Cx} : CallD X (.type "int") intBD :=
  callR_imp call_int1 fun xs H Q ⟨ds, M, Qd, R, r, h, E⟩ => by
    unfold intBD at h
    split at h
    · obtain ⟨v, rfl, rv⟩ := one_inv r
      have := RepP.int_inv rv
      subst this
      exact .inl ⟨_, rfl, E (.d _) _ _ _ (Keep.refl _ _) R (.int _) h⟩
    · obtain ⟨v, rfl, rv⟩ := one_inv r
      have := RepP.bl_inv rv
      subst this
      exact .inr ⟨_, rfl, E (.d _) _ _ _ (Keep.refl _ _) R (.int _) h⟩
    · exact h.elim
end DL
namespace RZ
open PySem
open PySem.Sem (wp)
def SIt (k : Bool) (h : Heap) (it l : Addr) (i : Nat) : Prop := match k with
  | true => h.IsListIter it l i
  | false => h.IsTupleIter it l i
def SSrc (k : Bool) (h : Heap) (l : Addr) (xs : Array Value) : Prop := match k with
  | true => h.IsList l xs
  | false => h.IsTuple l xs
theorem SIt.extBut {k : Bool} {h h' : Heap} {it l c : Addr} {i : Nat} (x : SIt k h it l i) (e : Heap.ExtBut c h h') (n : it ≠ c) : SIt k h' it l i := by
  cases k
  · exact Heap.IsTupleIter.extBut x e n
  · exact Heap.IsListIter.extBut x e n
theorem SSrc.extBut {k : Bool} {h h' : Heap} {l c : Addr} {xs : Array Value} (x : SSrc k h l xs) (e : Heap.ExtBut c h h') (n : l ≠ c) : SSrc k h' l xs := by
  cases k
  · exact Heap.IsTuple.extBut x e n
  · exact Heap.IsList.extBut x e n
theorem SIt.at {k : Bool} {h h' : Heap} {it l : Addr} {i : Nat} (x : SIt k h it l i) (e : ∀ o, h.get? it = some o → h'.get? it = some o) : SIt k h' it l i := by
  cases k
  · exact Heap.IsTupleIter.at x fun o q => e o q
  · exact Heap.IsListIter.at x fun o q => e o q
theorem SIt.obj {k : Bool} {h : Heap} {it l : Addr} {i : Nat} (x : SIt k h it l i) : ∃ o, h.get? it = some o ∧ ∃ d, o.data = .fields d := by
  cases k
  · obtain ⟨o, e, _, d⟩ := x; exact ⟨o, e, _, d⟩
  · obtain ⟨o, e, _, d⟩ := x; exact ⟨o, e, _, d⟩
abbrev IsZipX (h : Heap) (z TI TO : Addr) (f0 : Value) : Prop :=
  h.get? z = some { cls := .type "zip", dict := none, data := .fields #[f0, .bool false, .bool true, .ref TI, .ref TO], slots := #[] }
section
variable {prog : Program} {w : World} {A : Around} {E : Value → Shared → Prop} {s : Shared}
theorem nextOf_item {k : Bool} {it l : Addr} {i : Nat} {items} {x : Value} {Q : Value → Shared → Prop} (hit : SIt k s.heap it l i) (hl : SSrc k s.heap l items) (hx : items[i]? = some x)
    (hQ : ∀ h', SIt k h' it l (i + 1) → Heap.SameBut it s.heap h' → Q x { s with heap := h' }) : wpAny (model prog w) A (Builtin.SmallTypes.nextOf (.ref it)) Q E s := by
  cases k
  · exact nextOf_tuple_item hit hl hx hQ
  · exact wpAny_nextOf_list_item hit hl hx hQ
theorem nextOf_end {k : Bool} {it l : Addr} {i : Nat} {items} {Q : Value → Shared → Prop} (hh : A.handled = none) (hit : SIt k s.heap it l i) (hl : SSrc k s.heap l items) (hx : items[i]? = none)
    (hE : ∀ h' e, Heap.ExtBut it s.heap h' → (∃ o, h'.get? e = some o ∧ o.cls = .type "StopIteration") → E (.ref e) { s with heap := h' }) : wpAny (model prog w) A (Builtin.SmallTypes.nextOf (.ref it)) Q E s := by
  cases k
  · exact nextOf_tuple_end hh hit hl hx hE
  · exact wpAny_nextOf_list_end hh hit hl hx hE
theorem nextOrEnd_item {k : Bool} {it l : Addr} {i : Nat} {items} {x : Value} {Q : Option Value → Shared → Prop} (hit : SIt k s.heap it l i) (hl : SSrc k s.heap l items) (hx : items[i]? = some x)
    (hQ : ∀ h', SIt k h' it l (i + 1) → Heap.SameBut it s.heap h' → Q (some x) { s with heap := h' }) : wpAny (model prog w) A (Builtin.SmallTypes.nextOrEnd (.ref it)) Q E s := by
  unfold Builtin.SmallTypes.nextOrEnd
  exact wpAny_bind (wpAny_attempt (nextOf_item hit hl hx fun h' a b => wpAny_pure (hQ h' a b)))
theorem nextOrEnd_end {k : Bool} {it l : Addr} {i : Nat} {items} {Q : Option Value → Shared → Prop} (hh : A.handled = none) (hit : SIt k s.heap it l i) (hl : SSrc k s.heap l items) (hx : items[i]? = none)
    (hQ : ∀ h', Heap.ExtBut it s.heap h' → Q none { s with heap := h' }) : wpAny (model prog w) A (Builtin.SmallTypes.nextOrEnd (.ref it)) Q E s := by
  unfold Builtin.SmallTypes.nextOrEnd
  refine wpAny_bind (wpAny_attempt (nextOf_end hh hit hl hx fun h' e hk he => ?_))
  obtain ⟨o, ho, hc⟩ := he
  refine wpAny_bind (wpAny_isInstance (T := "StopIteration") (b := true) ⟨o, ho, hc⟩ isSubtype_stop ?_)
  exact wpAny_pure (hQ _ hk)
theorem stop_end {Q : Fin → Shared → Prop} (hh : A.handled = none) (hE : ∀ h' e, (∀ c o, s.heap.get? c = some o → h'.get? c = some o) → (∃ o, h'.get? e = some o ∧ o.cls = .type "StopIteration") → E (.ref e) { s with heap := h' }) :
    wpAny (model prog w) A (Builtin.SmallTypes.stopIteration (α := Fin)) Q E s := by
  show wpAny _ _ (newExc (.type "StopIteration") [] >>= _) _ _ _
  refine wpAny_bind ?_
  simp only [newExc, newTuple]
  refine wpAny_bind (wpAny_newObj_type ?_ (by size_fits))
  refine wpAny_bind (m := firstArgMember _ _) (wpAny_of_eq (a := Value.none) (by first | rfl | (simp only [firstArgMember]; rfl)) ?_)
  refine wpAny_newObj_type ?_ (by size_fits)
  simp only [raiseNew]
  refine wpAny_bind (wpAny_handled ?_)
  first | rw [show A.in1.handled = none from hh] | rw [hh]
  refine wpAny_bind (wpAny_pure (wpAny_throw ?_))
  exact hE _ _ (fun c o e => Heap.get?_push_of_some _ (Heap.get?_push_of_some _ e)) ⟨_, Heap.get?_push_size _ rfl, rfl⟩
theorem zipX_next_item {p q : Bool} {z TI TO i1 i2 l1 l2 : Addr} {k1 k2 : Nat} {xs ys : Array Value} {x y a b : Value} {Q : Value → Shared → Prop} (D : ZipApart z TI TO i1 i2 l1 l2)
    (hz : IsZipX s.heap z TI TO .none) (hTI : IsPair s.heap TI (.ref i1) (.ref i2)) (hTO : IsPair s.heap TO a b)
    (h1 : SIt p s.heap i1 l1 k1) (h2 : SIt q s.heap i2 l2 k2) (hl1 : SSrc p s.heap l1 xs) (hl2 : SSrc q s.heap l2 ys) (hx : xs[k1]? = some x) (hy : ys[k2]? = some y)
    (hQ : ∀ h', IsZipX h' z TI TO (rawInt s.heap.objs.size) → IsPair h' TO x y → SIt p h' i1 l1 (k1 + 1) → SIt q h' i2 l2 (k2 + 1) → IsPair h' s.heap.objs.size x y → h'.objs.size = s.heap.objs.size + 1 →
      (∀ c o, c ≠ z → c ≠ TO → c ≠ i1 → c ≠ i2 → s.heap.get? c = some o → h'.get? c = some o) → Q (.ref s.heap.objs.size) { s with heap := h' }) :
    wpAny (model prog w) A (Builtin.«zip.__next__» ⟨[.ref z], []⟩) (fun fin s' => ∃ v, fin = .done (.ret v) ∧ Q v s') E s := by
  show wpAny _ _ (field (.ref z) 2 >>= _) _ _ _
  refine wpAny_bind (wpAny_field hz rfl (x := .bool true) rfl ?_)
  show wpAny _ _ (field (.ref z) 3 >>= _) _ _ _
  refine wpAny_bind (wpAny_field hz rfl (x := .ref TI) rfl ?_)
  refine wpAny_bind (wpAny_seqItems hTI rfl ?_)
  show wpAny _ _ (Builtin.SmallTypes.ownedTupleIsFree (.ref z) >>= _) _ _ _
  refine wpAny_bind ?_
  unfold Builtin.SmallTypes.ownedTupleIsFree
  refine wpAny_bind (wpAny_field hz rfl (x := .none) rfl (wpAny_pure ?_))
  simp only [if_true]
  refine wpAny_bind (wpAny_rule ?_)
  refine wpAny_bind (wpAny_field hz rfl (x := .ref TO) rfl ?_)
  refine wpAny_bind (wpAny_setField_rec hz (by simp) fun h₁ hz₁ hs₁ => ?_)
  replace hz₁ : IsZipX h₁ z TI TO .ellipsis := hz₁
  refine wpAny_bind ?_
  simp only [List.zipIdx_cons, List.zipIdx_nil, List.forIn_cons, List.forIn_nil]

  refine wpAny_bind (wpAny_bind (wpAny_onRaise ?_))
  show wpAny _ _ (Builtin.SmallTypes.nextOrEnd (.ref i1)) _ _ _
  refine nextOrEnd_item (h1.extBut hs₁.extBut D.i1z) (hl1.extBut hs₁.extBut D.l1z) hx fun h₂ h1₂ hs₂ => ?_
  have hTO₂ : IsPair h₂ TO a b := hs₂.extBut _ _ D.TOi1 (hs₁.extBut _ _ D.TOz hTO)
  refine wpAny_bind (wpAny_seqItems hTO₂ rfl ?_)
  refine wpAny_bind (wpAny_updateSeq_pair hTO₂ fun h₃ hTO₃ hs₃ => ?_)
  replace hTO₃ : IsPair h₃ TO x b := hTO₃
  refine wpAny_bind (wpAny_letGo (wpAny_pure ?_))

  refine wpAny_bind (wpAny_bind (wpAny_onRaise ?_))
  show wpAny _ _ (Builtin.SmallTypes.nextOrEnd (.ref i2)) _ _ _
  refine nextOrEnd_item (((h2.extBut hs₁.extBut D.i2z).extBut hs₂.extBut D.i12.symm).extBut hs₃.extBut D.TOi2.symm)
    (((hl2.extBut hs₁.extBut D.l2z).extBut hs₂.extBut D.l2i1).extBut hs₃.extBut D.l2TO) hy fun h₄ h2₄ hs₄ => ?_
  have hTO₄ : IsPair h₄ TO x b := hs₄.extBut _ _ D.TOi2 hTO₃
  refine wpAny_bind (wpAny_seqItems hTO₄ rfl ?_)
  refine wpAny_bind (wpAny_updateSeq_pair hTO₄ fun h₅ hTO₅ hs₅ => ?_)
  replace hTO₅ : IsPair h₅ TO x y := hTO₅
  refine wpAny_bind (wpAny_letGo (wpAny_pure (wpAny_pure ?_)))

  refine wpAny_bind (wpAny_seqItems hTO₅ rfl ?_)
  refine wpAny_bind (wpAny_newTuple ?_)
  have hsz : h₅.objs.size = s.heap.objs.size := by rw [hs₅.1, hs₄.1, hs₃.1, hs₂.1, hs₁.1]
  have hz₅ : IsZipX h₅ z TI TO .ellipsis := hs₅.extBut _ _ D.TOz.symm (hs₄.extBut _ _ D.i2z.symm (hs₃.extBut _ _ D.TOz.symm (hs₂.extBut _ _ D.i1z.symm hz₁)))
  have hk₅ : ∀ c o, c ≠ z → c ≠ TO → c ≠ i1 → c ≠ i2 → s.heap.get? c = some o → h₅.get? c = some o := fun c o c1 c2 c3 c4 e =>
    hs₅.extBut _ _ c2 (hs₄.extBut _ _ c4 (hs₃.extBut _ _ c2 (hs₂.extBut _ _ c3 (hs₁.extBut _ _ c1 e))))
  have h1₅ : SIt p h₅ i1 l1 (k1 + 1) := ((h1₂.extBut hs₃.extBut D.TOi1.symm).extBut hs₄.extBut D.i12).extBut hs₅.extBut D.TOi1.symm
  have h2₅ : SIt q h₅ i2 l2 (k2 + 1) := h2₄.extBut hs₅.extBut D.TOi2.symm
  have hzlt : z < h₅.objs.size := Heap.lt_size hz₅
  have hTOlt : TO < h₅.objs.size := Heap.lt_size hTO₅
  show wpAny _ _ (Builtin.SmallTypes.ownedTupleHandOut (.ref z) (.ref h₅.objs.size) >>= _) _ _ _
  refine wpAny_bind ?_
  unfold Builtin.SmallTypes.ownedTupleHandOut
  have hz₆ : IsZipX (h₅.push { cls := .type "tuple", data := .seq #[x, y] }) z TI TO .ellipsis := Heap.get?_push_of_some _ hz₅
  refine wpAny_bind (wpAny_setField_rec hz₆ (by simp) fun h₇ hz₇ hs₇ => ?_)
  replace hz₇ : IsZipX h₇ z TI TO (rawInt h₅.objs.size) := hz₇
  refine wpAny_setField_rec hz₇ (by simp) fun h₈ hz₈ hs₈ => ?_
  replace hz₈ : IsZipX h₈ z TI TO (rawInt h₅.objs.size) := hz₈
  have up : ∀ c o, c ≠ z → h₅.get? c = some o → h₈.get? c = some o := fun c o c1 e => hs₈.extBut _ _ c1 (hs₇.extBut _ _ c1 (Heap.get?_push_of_some _ e))
  have hT₈ : IsPair h₈ h₅.objs.size x y := hs₈.extBut _ _ (Nat.ne_of_gt hzlt) (hs₇.extBut _ _ (Nat.ne_of_gt hzlt) (Heap.get?_push_size _ rfl))
  have hz8 : h₈.objs.size = h₅.objs.size + 1 := by rw [hs₈.1, hs₇.1, Heap.size_push]
  rw [hsz] at hz₈ hT₈ hz8
  refine wpAny_pure ⟨_, rfl, ?_⟩
  show Q (.ref h₅.objs.size) _
  rw [hsz]
  exact hQ h₈ hz₈ (up _ _ D.TOz hTO₅) (h1₅.at fun o e => up _ o D.i1z e) (h2₅.at fun o e => up _ o D.i2z e) hT₈ hz8 fun c o c1 c2 c3 c4 e => up c o c1 (hk₅ c o c1 c2 c3 c4 e)
theorem zipX_next_end {p q : Bool} {z TI TO i1 i2 l1 l2 : Addr} {k1 k2 : Nat} {xs ys : Array Value} {a b : Value} {Q : Fin → Shared → Prop} (hh : A.handled = none) (D : ZipApart z TI TO i1 i2 l1 l2)
    (hz : IsZipX s.heap z TI TO .none) (hTI : IsPair s.heap TI (.ref i1) (.ref i2)) (hTO : IsPair s.heap TO a b)
    (h1 : SIt p s.heap i1 l1 k1) (h2 : SIt q s.heap i2 l2 k2) (hl1 : SSrc p s.heap l1 xs) (hl2 : SSrc q s.heap l2 ys) (hx : xs[k1]? = none) (hy : ys[k2]? = none)
    (hE : ∀ h' e, (∀ c o, c ≠ z → c ≠ TO → c ≠ i1 → c ≠ i2 → s.heap.get? c = some o → h'.get? c = some o) → (∃ o, h'.get? e = some o ∧ o.cls = .type "StopIteration") → E (.ref e) { s with heap := h' }) :
    wpAny (model prog w) A (Builtin.«zip.__next__» ⟨[.ref z], []⟩) Q E s := by
  show wpAny _ _ (field (.ref z) 2 >>= _) _ _ _
  refine wpAny_bind (wpAny_field hz rfl (x := .bool true) rfl ?_)
  show wpAny _ _ (field (.ref z) 3 >>= _) _ _ _
  refine wpAny_bind (wpAny_field hz rfl (x := .ref TI) rfl ?_)
  refine wpAny_bind (wpAny_seqItems hTI rfl ?_)
  show wpAny _ _ (Builtin.SmallTypes.ownedTupleIsFree (.ref z) >>= _) _ _ _
  refine wpAny_bind ?_
  unfold Builtin.SmallTypes.ownedTupleIsFree
  refine wpAny_bind (wpAny_field hz rfl (x := .none) rfl (wpAny_pure ?_))
  simp only [if_true]
  refine wpAny_bind (wpAny_rule ?_)
  refine wpAny_bind (wpAny_field hz rfl (x := .ref TO) rfl ?_)
  refine wpAny_bind (wpAny_setField_rec hz (by simp) fun h₁ hz₁ hs₁ => ?_)
  replace hz₁ : IsZipX h₁ z TI TO .ellipsis := hz₁
  refine wpAny_bind ?_
  simp only [List.zipIdx_cons, List.zipIdx_nil, List.forIn_cons, List.forIn_nil]
  refine wpAny_bind (wpAny_bind (wpAny_onRaise ?_))
  show wpAny _ _ (Builtin.SmallTypes.nextOrEnd (.ref i1)) _ _ _
  refine nextOrEnd_end hh (h1.extBut hs₁.extBut D.i1z) (hl1.extBut hs₁.extBut D.l1z) hx fun h₂ hs₂ => ?_
  have hz₂ : IsZipX h₂ z TI TO .ellipsis := hs₂ _ _ D.i1z.symm hz₁
  refine wpAny_bind (wpAny_setField_rec hz₂ (by simp) fun h₃ hz₃ hs₃ => ?_)
  replace hz₃ : IsZipX h₃ z TI TO .none := hz₃
  refine wpAny_bind (wpAny_bind ?_)
  simp only [List.drop_succ_cons, List.drop_zero, List.zipIdx_cons, List.zipIdx_nil, List.forIn_cons, List.forIn_nil]
  refine wpAny_bind (wpAny_bind ?_)
  refine nextOrEnd_end hh ((((h2.extBut hs₁.extBut D.i2z).extBut hs₂ D.i12.symm)).extBut hs₃.extBut D.i2z) (((hl2.extBut hs₁.extBut D.l2z).extBut hs₂ D.l2i1).extBut hs₃.extBut D.l2z) hy fun h₄ hs₄ => ?_
  refine wpAny_pure (wpAny_pure (wpAny_bind (wpAny_rule ?_)))
  refine stop_end hh fun h₅ e hs₅ he => ?_
  exact hE h₅ e (fun c o c1 c2 c3 c4 x => hs₅ _ _ (hs₄ _ _ c4 (hs₃.extBut _ _ c1 (hs₂ _ _ c3 (hs₁.extBut _ _ c1 x))))) he
theorem pyNext_zipX_item {p q : Bool} {z TI TO i1 i2 l1 l2 : Addr} {k1 k2 : Nat} {xs ys : Array Value} {x y a b : Value} {Q : Option Value → Shared → Prop} (D : ZipApart z TI TO i1 i2 l1 l2)
    (hz : IsZipX s.heap z TI TO .none) (hTI : IsPair s.heap TI (.ref i1) (.ref i2)) (hTO : IsPair s.heap TO a b)
    (h1 : SIt p s.heap i1 l1 k1) (h2 : SIt q s.heap i2 l2 k2) (hl1 : SSrc p s.heap l1 xs) (hl2 : SSrc q s.heap l2 ys) (hx : xs[k1]? = some x) (hy : ys[k2]? = some y)
    (hQ : ∀ h', IsZipX h' z TI TO (rawInt s.heap.objs.size) → IsPair h' TO x y → SIt p h' i1 l1 (k1 + 1) → SIt q h' i2 l2 (k2 + 1) → IsPair h' s.heap.objs.size x y → h'.objs.size = s.heap.objs.size + 1 →
      (∀ c o, c ≠ z → c ≠ TO → c ≠ i1 → c ≠ i2 → s.heap.get? c = some o → h'.get? c = some o) → Q (some (.ref s.heap.objs.size)) { s with heap := h' }) :
    wpAny (model prog w) A (pyNext (.ref z)) Q E s := by
  have hT : s.TypeIs (.ref z) "zip" := ⟨_, hz, rfl⟩
  unfold pyNext
  exact wpAny_bind (wpAny_attempt (wpAny_callSpecial?_slot (name := Str.ofString "__next__") hT F.slot_zip_next
    (wpAny_call_entry F.slot_zip_next hT F.entry_zip_next
      (zipX_next_item D hz hTI hTO h1 h2 hl1 hl2 hx hy fun h' a1 a2 a3 a4 a5 a6 a7 => wpAny_pure (hQ h' a1 a2 a3 a4 a5 a6 a7)) (F.args_zip_next_1 _))))
theorem pyNext_zipX_end {p q : Bool} {z TI TO i1 i2 l1 l2 : Addr} {k1 k2 : Nat} {xs ys : Array Value} {a b : Value} {Q : Option Value → Shared → Prop} (hh : A.handled = none) (D : ZipApart z TI TO i1 i2 l1 l2)
    (hz : IsZipX s.heap z TI TO .none) (hTI : IsPair s.heap TI (.ref i1) (.ref i2)) (hTO : IsPair s.heap TO a b)
    (h1 : SIt p s.heap i1 l1 k1) (h2 : SIt q s.heap i2 l2 k2) (hl1 : SSrc p s.heap l1 xs) (hl2 : SSrc q s.heap l2 ys) (hx : xs[k1]? = none) (hy : ys[k2]? = none)
    (hQ : ∀ h', (∀ c o, c ≠ z → c ≠ TO → c ≠ i1 → c ≠ i2 → s.heap.get? c = some o → h'.get? c = some o) → Q none { s with heap := h' }) : wpAny (model prog w) A (pyNext (.ref z)) Q E s := by
  have hT : s.TypeIs (.ref z) "zip" := ⟨_, hz, rfl⟩
  unfold pyNext
  refine wpAny_bind (wpAny_attempt (wpAny_callSpecial?_slot (name := Str.ofString "__next__") hT F.slot_zip_next
    (wpAny_call_entry F.slot_zip_next hT F.entry_zip_next (zipX_next_end hh D hz hTI hTO h1 h2 hl1 hl2 hx hy fun h' e hk he => ?_) (F.args_zip_next_1 _))))
  obtain ⟨o, ho, hc⟩ := he
  refine wpAny_bind (wpAny_isInstance (T := "StopIteration") (b := true) ⟨o, ho, hc⟩ isSubtype_stop ?_)
  exact wpAny_pure (hQ _ hk)
theorem letGo_zipX {elts : List Expr} {x1} {pos : Pos} {z TI TO T : Addr} {Q : Unit → Shared → Prop} (hz : IsZipX s.heap z TI TO (rawInt T))
    (hQ : ∀ h', IsZipX h' z TI TO .none → Heap.SameBut z s.heap h' → Q () { s with heap := h' }) :
    wpAny (model prog w) A (letOwnedTupleGo (.Tuple elts x1 pos) (.ref z) (.ref T)) Q E s := by
  unfold letOwnedTupleGo
  refine wpAny_bind (wpAny_load hz ?_)
  show wpAny _ _ (if (["enumerate", "zip", "dict_itemiterator", "dict_reverseitemiterator", "odict_iterator", "itertools.zip_longest", "itertools.pairwise"].contains "zip" &&
      (#[rawInt T, .bool false, .bool true, .ref TI, .ref TO] : Array Value)[0]? == some (rawInt T)) = true then _ else _) Q E s
  rw [if_pos (by simp)]
  refine wpAny_bind (wpAny_rule ?_)
  show wpAny _ _ (setField (.ref z) 0 .none) Q E s
  exact wpAny_setField_rec hz (by simp) fun h' hz' hs' => hQ h' hz' hs'
theorem pyIter_zipX {z TI TO : Addr} {f0 : Value} {Q : Value → Shared → Prop} (hz : IsZipX s.heap z TI TO f0) (h : Q (.ref z) s) : wpAny (model prog w) A (pyIter (.ref z)) Q E s := by
  have hT : s.TypeIs (.ref z) "zip" := ⟨_, hz, rfl⟩
  refine wpAny_pyIter_slot hT F.slot_zip_iter (wpAny_call_entry F.slot_zip_iter hT F.entry_zip_iter ?_ (F.args_zip_iter_1 _))
  show wpAny _ _ (ret (.ref z)) _ _ s
  exact wpAny_pure ⟨_, rfl, "zip", _, hT, F.slot_zip_next.lookup, h⟩
end
abbrev itObj (k : Bool) (l : Addr) : Obj := { cls := .type (if k then "list_iterator" else "tuple_iterator"), data := .fields #[.ref l, .int 0 0] }
abbrev zx1 (p : Bool) (h : Heap) (l1 : Addr) : Heap := h.push (itObj p l1)
abbrev zx2 (p q : Bool) (h : Heap) (l1 l2 : Addr) : Heap := (zx1 p h l1).push (itObj q l2)
abbrev zx3 (p q : Bool) (h : Heap) (l1 l2 : Addr) : Heap := (zx2 p q h l1 l2).push { cls := .type "tuple", data := .seq #[.ref h.objs.size, .ref (zx1 p h l1).objs.size] }
abbrev zx4 (p q : Bool) (h : Heap) (l1 l2 : Addr) : Heap := (zx3 p q h l1 l2).push { cls := .type "tuple", data := .seq #[.none, .none] }
abbrev zx5 (p q : Bool) (h : Heap) (l1 l2 : Addr) : Heap := (zx4 p q h l1 l2).push { cls := .type "zip", data := .fields #[.none, .bool false, .bool true, .ref (zx2 p q h l1 l2).objs.size, .ref (zx3 p q h l1 l2).objs.size] }
theorem meets_zipX_new (p q : Bool) (l1 l2 : Addr) (xs ys : Array Value) :
    Meets (Builtin.«zip.__new__» ⟨[.type "zip", .ref l1, .ref l2], [(Str.ofString "strict", .bool true)]⟩) (fun _ R s => SSrc p s.heap l1 xs ∧ SSrc q s.heap l2 ys ∧
      R (.ok (.ret (.ref (zx4 p q s.heap l1 l2).objs.size))) { s with heap := zx5 p q s.heap l1 l2 }) :=
  .of_wp fun prog w A R s h => by
    obtain ⟨hp, g, d, tk, os⟩ := s; obtain ⟨hl1, hl2, h⟩ := h
    have hsub := sub_zip
    have e2 : (Str.ofString "strict" != ("strict" : Str)) = false := by decide +kernel
    cases p
    · have hL1 : Heap.IsTuple (Shared.heap ⟨hp, g, d, tk, os⟩) l1 xs := hl1
      cases q
      · have hL2 : Heap.IsTuple (Shared.heap ⟨hp.push { cls := .type "tuple_iterator", data := .fields #[.ref l1, .int 0 0] }, g, d, tk, os⟩) l2 ys := Heap.IsTuple.push hl2 _
        wp_walk using wpAny_pyIter_tuple hL1, wpAny_pyIter_tuple hL2
        exact ⟨_, rfl, h⟩
      · have hL2 : Heap.IsList (Shared.heap ⟨hp.push { cls := .type "tuple_iterator", data := .fields #[.ref l1, .int 0 0] }, g, d, tk, os⟩) l2 ys := Heap.IsList.push hl2 _
        wp_walk using wpAny_pyIter_tuple hL1, wpAny_pyIter_list hL2
        exact ⟨_, rfl, h⟩
    · have hL1 : Heap.IsList (Shared.heap ⟨hp, g, d, tk, os⟩) l1 xs := hl1
      cases q
      · have hL2 : Heap.IsTuple (Shared.heap ⟨hp.push { cls := .type "list_iterator", data := .fields #[.ref l1, .int 0 0] }, g, d, tk, os⟩) l2 ys := Heap.IsTuple.push hl2 _
        wp_walk using wpAny_pyIter_list hL1, wpAny_pyIter_tuple hL2
        exact ⟨_, rfl, h⟩
      · have hL2 : Heap.IsList (Shared.heap ⟨hp.push { cls := .type "list_iterator", data := .fields #[.ref l1, .int 0 0] }, g, d, tk, os⟩) l2 ys := Heap.IsList.push hl2 _
        wp_walk using wpAny_pyIter_list hL1, wpAny_pyIter_list hL2
        exact ⟨_, rfl, h⟩
section
variable {prog : Program} {w : World} {A : Around} {E : Value → Shared → Prop} {s : Shared}
theorem sit_new {k : Bool} {h : Heap} {i l : Addr} (g : h.get? i = some (itObj k l)) : SIt k h i l 0 := by
  cases k
  · exact ⟨_, g, rfl, rfl⟩
  · exact ⟨_, g, rfl, rfl⟩
theorem call_zipX {p q : Bool} {l1 l2 : Addr} {xs ys : Array Value} {Q : Value → Shared → Prop} (hl1 : SSrc p s.heap l1 xs) (hl2 : SSrc q s.heap l2 ys)
    (h : ∀ h', IsZipX h' (s.heap.objs.size + 4) (s.heap.objs.size + 2) (s.heap.objs.size + 3) .none → IsPair h' (s.heap.objs.size + 2) (.ref s.heap.objs.size) (.ref (s.heap.objs.size + 1)) →
      IsPair h' (s.heap.objs.size + 3) .none .none → SIt p h' s.heap.objs.size l1 0 → SIt q h' (s.heap.objs.size + 1) l2 0 → h'.objs.size = s.heap.objs.size + 5 →
      (∀ c o, s.heap.get? c = some o → h'.get? c = some o) → Q (.ref (s.heap.objs.size + 4)) { s with heap := h' }) :
    wpAny (model prog w) A (call (.type "zip") [.ref l1, .ref l2] [(Str.ofString "strict", .bool true)]) Q E s := by
  refine callType_newKw F.called_zip (by decide) (typeCall_zip_strict _ _ _) (newCall_zip_strict _ _ _) (fun obj => args_object_init_strict obj _ _ _) F.entry_zip_new
    (meets_zipX_new p q l1 l2 xs ys) ⟨hl1, hl2, ?_⟩
  have z1 : (zx1 p s.heap l1).objs.size = s.heap.objs.size + 1 := Heap.size_push ..
  have z2 : (zx2 p q s.heap l1 l2).objs.size = s.heap.objs.size + 2 := by rw [Heap.size_push, z1]
  have z3 : (zx3 p q s.heap l1 l2).objs.size = s.heap.objs.size + 3 := by rw [Heap.size_push, z2]
  have z4 : (zx4 p q s.heap l1 l2).objs.size = s.heap.objs.size + 4 := by rw [Heap.size_push, z3]
  have z5 : (zx5 p q s.heap l1 l2).objs.size = s.heap.objs.size + 5 := by rw [Heap.size_push, z4]
  have g5 : (zx5 p q s.heap l1 l2).get? (zx4 p q s.heap l1 l2).objs.size = some _ := Heap.get?_push_size _ rfl
  have g4 : (zx5 p q s.heap l1 l2).get? (zx3 p q s.heap l1 l2).objs.size = some _ := Heap.get?_push_of_some _ (Heap.get?_push_size _ rfl)
  have g3 : (zx5 p q s.heap l1 l2).get? (zx2 p q s.heap l1 l2).objs.size = some _ := Heap.get?_push_of_some _ (Heap.get?_push_of_some _ (Heap.get?_push_size _ rfl))
  have g2 : (zx5 p q s.heap l1 l2).get? (zx1 p s.heap l1).objs.size = some (itObj q l2) := Heap.get?_push_of_some _ (Heap.get?_push_of_some _ (Heap.get?_push_of_some _ (Heap.get?_push_size _ rfl)))
  have g1 : (zx5 p q s.heap l1 l2).get? s.heap.objs.size = some (itObj p l1) := Heap.get?_push_of_some _ (Heap.get?_push_of_some _ (Heap.get?_push_of_some _ (Heap.get?_push_of_some _ (Heap.get?_push_size _ rfl))))
  show _ ∧ _
  rw [z2, z3, z4] at g5
  rw [z1, z2] at g3
  rw [z3] at g4
  rw [z1] at g2
  rw [z4]
  exact ⟨⟨_, g5, rfl⟩, h _ g5 g3 g4 (sit_new g1) (sit_new g2) z5 fun c o x =>
    Heap.get?_push_of_some _ (Heap.get?_push_of_some _ (Heap.get?_push_of_some _ (Heap.get?_push_of_some _ (Heap.get?_push_of_some _ x))))⟩
end
end RZ
namespace L2
open PySem PySem.Spec RZ
open PyProof.Rows hiding St
def SqK (k : Bool) (K : PySem.W.Frag) (H : Hp) (a : Addr) (xs : List V) : Prop := match k with
  | true => SqL K H a xs
  | false => SqT K H a xs
def ItzX (p q : Bool) (K : PySem.W.Frag) (a b : Addr) : It :=
  ⟨fun i H => ∃ (xs ys : List V) (x y : V), SqK p K H a xs ∧ SqK q K H b ys ∧ xs[i]? = some x ∧ ys[i]? = some y,
    fun i H v H' => ∃ T x y, v = .ref T ∧ H T = none ∧ H' = upd H T (.tup [x, y]) ∧ (∀ xs, SqK p K H a xs → xs[i]? = some x) ∧ ∀ ys, SqK q K H b ys → ys[i]? = some y,
    fun i H => ∃ xs ys : List V, SqK p K H a xs ∧ SqK q K H b ys ∧ xs.length ≤ i ∧ ys.length ≤ i⟩
theorem sqK_inv {k : Bool} {X : Cx} {pins : List (Addr × Obj)} {σ : St} {H : Hp} {s : Shared} {a : Addr} {xs : List V} (I : Inv X pins σ H s) (h : SqK k X.K H a xs) : ∃ its : List Value, Vals xs its ∧ SSrc k s.heap a its.toArray := by
  cases k
  · obtain ⟨its, rv, p, _⟩ := I.tuple h
    exact ⟨its, rv, p⟩
  · obtain ⟨its, rv, p, _⟩ := I.list h
    exact ⟨its, rv, p.isList⟩
theorem sqK_inj {k : Bool} {X : Cx} {pins : List (Addr × Obj)} {σ : St} {H : Hp} {s : Shared} {a : Addr} {xs ys : List V} (I : Inv X pins σ H s) (h : SqK k X.K H a xs) (h' : SqK k X.K H a ys) : xs = ys := by
  cases k
  · exact I.tuple_inj h h'
  · exact I.list_inj h h'
theorem turn_zipX {p q : Bool} {P : Program} {w : World} {K : PySem.W.Frag} {elts : List Expr} {kk : Nat} {tpos : Pos} {a b z TI TO i1 i2 : Addr} (D : ZipApart z TI TO i1 i2 a b) :
    Turn P w K (.Tuple elts kk tpos) (ItzX p q K a b) [z, TI, TO, i1, i2] z (fun i h => IsZipX h z TI TO .none ∧ IsPair h TI (.ref i1) (.ref i2) ∧ (∃ x y, IsPair h TO x y) ∧ SIt p h i1 a i ∧ SIt q h i2 b i) where
  mem := by simp
  obj := fun i h st c hc => by
    obtain ⟨hz, hTI, ⟨x, y, hTO⟩, h1, h2⟩ := st
    obtain ⟨o1, e1, d1', d1⟩ := h1.obj
    obtain ⟨o2, e2, d2', d2⟩ := h2.obj
    have e' : c = z ∨ c = TI ∨ c = TO ∨ c = i1 ∨ c = i2 := by simpa using hc
    rcases e' with q | q | q | q | q
    · rw [q]; exact ⟨_, hz, fun v q => nomatch q⟩
    · rw [q]; exact ⟨_, hTI, fun v q => nomatch q⟩
    · rw [q]; exact ⟨_, hTO, fun v q => nomatch q⟩
    · rw [q]; exact ⟨o1, e1, fun v q => by rw [d1] at q; cases q⟩
    · rw [q]; exact ⟨o2, e2, fun v q => by rw [d2] at q; cases q⟩
  keep := fun i h h' st k => by
    obtain ⟨hz, hTI, ⟨x, y, hTO⟩, h1, h2⟩ := st
    exact ⟨k z (by simp) _ hz, k TI (by simp) _ hTI, ⟨x, y, k TO (by simp) _ hTO⟩, h1.at fun o q => k i1 (by simp) o q, h2.at fun o q => k i2 (by simp) o q⟩
  item := by
    intro X hP hw hK hc i pins s σ H E I hf st hg
    subst hP hw hK
    obtain ⟨hz, hTI, ⟨x0, y0, hTO⟩, h1, h2⟩ := st
    obtain ⟨xs, ys, x, y, hqx, hqy, hx, hy⟩ := hg
    obtain ⟨its, rv, p1⟩ := sqK_inv I hqx
    obtain ⟨its2, rv2, p2⟩ := sqK_inv I hqy
    obtain ⟨u, hu, ru⟩ := rv.get hx
    obtain ⟨u2, hu2, ru2⟩ := rv2.get hy
    have hzl : z < s.heap.objs.size := Heap.lt_size hz
    refine pyNext_zipX_item D hz hTI hTO h1 h2 p1 p2 (x := u) (y := u2) (by simpa using hu) (by simpa using hu2) fun h' z' TO' h1' h2' hT hsz hk => ?_
    refine ⟨_, rfl, letGo_zipX (s := { s with heap := h' }) z' fun h'' z'' sb => ?_⟩
    have hT2 : h''.get? s.heap.objs.size = some { cls := .type "tuple", data := .seq #[u, u2] } := (sb.2 _ (Nat.ne_of_gt hzl)).trans hT
    have new : ObjOk X.prog X.w (upd H s.heap.objs.size (.tup [x, y])) h'' s.heap.objs.size (.tup [x, y]) :=
      ⟨by show 2 ≤ sizeLine; decide, [u, u2], .cons ru (.cons ru2 .nil), ⟨_, hT2, rfl, _, rfl⟩⟩
    have I1 : Inv X pins σ (upd H s.heap.objs.size (.tup [x, y])) { s with heap := h'' } :=
      I.turnedNew (t' := s.toks) (ch := [z, TI, TO, i1, i2]) (fun c o hb q => (sb.2 c (fun q' => hb (by simp [q']))).trans (hk c o (fun q' => hb (by simp [q'])) (fun q' => hb (by simp [q'])) (fun q' => hb (by simp [q'])) (fun q' => hb (by simp [q'])) q)) hf (Nat.le_refl _) new
    refine ⟨.ref s.heap.objs.size, _, I1, rfl, ⟨_, x, y, rfl, I.hok.fresh (Nat.le_refl _), rfl, fun l hl => by rw [sqK_inj I hl hqx]; exact hx, fun l hl => by rw [sqK_inj I hl hqy]; exact hy⟩, ⟨z'', ?_, ⟨u, u2, ?_⟩, ?_, ?_⟩, fun c hcm => ?_⟩
    · exact (sb.2 _ D.TIz).trans (hk _ _ D.TIz D.TITO D.TIi1 D.TIi2 hTI)
    · exact (sb.2 _ D.TOz).trans TO'
    · exact h1'.at fun o q => (sb.2 _ D.i1z).trans q
    · exact h2'.at fun o q => (sb.2 _ D.i2z).trans q
    · have hlt : c < s.heap.objs.size := by
        have e' : c = z ∨ c = TI ∨ c = TO ∨ c = i1 ∨ c = i2 := by simpa using hcm
        rcases e' with q | q | q | q | q
        · rw [q]; exact hzl
        · rw [q]; exact Heap.lt_size hTI
        · rw [q]; exact Heap.lt_size hTO
        · rw [q]; obtain ⟨_, e1, _⟩ := h1.obj; exact Heap.lt_size e1
        · rw [q]; obtain ⟨_, e2, _⟩ := h2.obj; exact Heap.lt_size e2
      rw [upd_ne (Nat.ne_of_lt hlt)]
      exact (hf c hcm).1
  done := by
    intro X hP hw hK hc i pins s σ H E I hf st hg
    subst hP hw hK
    obtain ⟨hz, hTI, ⟨x0, y0, hTO⟩, h1, h2⟩ := st
    obtain ⟨xs, ys, hqx, hqy, hend1, hend2⟩ := hg
    obtain ⟨its, rv, p1⟩ := sqK_inv I hqx
    obtain ⟨its2, rv2, p2⟩ := sqK_inv I hqy
    have l1 := rv.length
    have l2 := rv2.length
    exact pyNext_zipX_end (I.ok.hd hc) D hz hTI hTO h1 h2 p1 p2 (by simp; omega) (by simp; omega) fun h' hk => ⟨rfl, I.turnedL (t' := s.toks) (ch := [z, TI, TO, i1, i2]) (fun c o hb q =>
      hk c o (fun q' => hb (by simp [q'])) (fun q' => hb (by simp [q'])) (fun q' => hb (by simp [q'])) (fun q' => hb (by simp [q'])) q) hf⟩
  self := fun A i s Q E st h => pyIter_zipX st.1 h
theorem ssrc_lt {k : Bool} {h : Heap} {a : Addr} {xs : Array Value} (x : SSrc k h a xs) : a < h.objs.size := by
  cases k
  · obtain ⟨o, ho, _⟩ := x; exact Heap.lt_size ho
  · obtain ⟨o, ho, _⟩ := x; exact Heap.lt_size ho
def iZipX (K : PySem.W.Frag) (ta : TA) : TI := fun σ H R => ta σ H fun vs H1 => ∃ (p q : Bool) (a b : Addr) (xs ys : List V), vs = [.ref a, .ref b] ∧ SqK p K H1 a xs ∧ SqK q K H1 b ys ∧ R (ItzX p q K a b) H1
theorem pi_zipX {X : Cx} {e e2 : Expr} {ta : TA} {p pos tpos kp cp : Pos} {elts : List Expr} {kk cj : Nat} (hg : Gl X "zip") (hm : X.mg "zip" = none) (ha : PA X [e, e2] ta)
    (hs : starEach [e, e2] X.env = (false, eval e X.env) :: starEach [e2] X.env := by rfl) (hpl : (backTo pos (starEach [e, e2] X.env)).any (·.1) = false := by rfl) :
    PI X (.Tuple elts kk tpos) (.Call (.Name "zip" p) [e, e2] [⟨some "strict", .Constant (.bool true) cj cp, kp⟩] pos) (iZipX X.K ta) := by
  refine ⟨fun pins s σ H R I h => ?_⟩
  have he : eval (.Call (.Name "zip" p) [e, e2] [⟨some "strict", .Constant (.bool true) cj cp, kp⟩] pos) X.env = (do callWith pos (← eval (.Name "zip" p) X.env) [] (backTo pos (starEach [e, e2] X.env)) (backToKw pos (keywordEach [⟨some "strict", .Constant (.bool true) cj cp, kp⟩] X.env))) := by rfl
  rw [he]
  refine wpAny_bind (ld_blt I hg hm PyProof.Rows.boot_zip (callWith_typeK (thn (ha.run pos pins s σ H _ I h) fun us s0 ⟨vs, H0, I0, r1, q1⟩ => kws_cons (thn ((pe_bl (X := X) (b := true) (j := cj) (pos := cp)).run pins s0 σ H0 (fun x H' => x = .bl true ∧ H' = H0) I0 ⟨rfl, rfl⟩) fun kv s1 ⟨x, H1, I1, rk, ex, eh⟩ => kws_nil ?_)) (by rw [hs]; rfl) hpl))
  subst ex eh
  cases rk
  show wpAny (model X.prog X.w) X.A (call (.type "zip") us [(Str.ofString "strict", .bool true)]) _ _ _
  obtain ⟨kp1, kp2, a, b, xs, ys, ex, hqx, hqy, q⟩ := q1
  subst ex
  cases r1 with
  | cons r rr =>
    cases rr with
    | cons r' rr =>
      cases rr
      cases r
      cases r'
      have fresh5 : ∀ c, c ∈ [s1.heap.objs.size + 4, s1.heap.objs.size + 2, s1.heap.objs.size + 3, s1.heap.objs.size, s1.heap.objs.size + 1] → FpOk X pins H1 c := fun c hcm => by
        have e' : c = s1.heap.objs.size + 4 ∨ c = s1.heap.objs.size + 2 ∨ c = s1.heap.objs.size + 3 ∨ c = s1.heap.objs.size ∨ c = s1.heap.objs.size + 1 := by simpa using hcm
        have hle : s1.heap.objs.size ≤ c := by
          rcases e' with z | z | z | z | z
          · rw [z]; exact Nat.le_add_right _ _
          · rw [z]; exact Nat.le_add_right _ _
          · rw [z]; exact Nat.le_add_right _ _
          · rw [z]; exact Nat.le_refl _
          · rw [z]; exact Nat.le_add_right _ _
        exact I1.fpOk hle (I1.hok.fresh hle)
      obtain ⟨its, rv, p1⟩ := sqK_inv I1 hqx
      obtain ⟨its2, rv2, p2⟩ := sqK_inv I1 hqy
      refine call_zipX p1 p2 fun h' hz hTI hTO h1 h2 hsz hk => pyIter_zipX hz ?_
      have I2 : Inv X pins σ H1 { s1 with heap := h' } := I1.kept (t' := s1.toks) hk
      exact ⟨s1.heap.objs.size + 4, [s1.heap.objs.size + 4, s1.heap.objs.size + 2, s1.heap.objs.size + 3, s1.heap.objs.size, s1.heap.objs.size + 1], _, _, H1, rfl, I2, turn_zipX (PySem.W.ktu_apart s1.heap.objs.size a b (ssrc_lt p1) (ssrc_lt p2)), ⟨hz, hTI, ⟨_, _, hTO⟩, h1, h2⟩, fresh5, q⟩
end L2
namespace DL
open PySem PySem.Spec L2 RZ
open PyProof.Rows hiding St
theorem itd_zipX {p q : Bool} {K : PySem.W.Frag} {H : Hp} {M : Mem} {a b : Addr} {xs ys : List V} {ds es : List PyData} (hl : ds.length = es.length) (e : ∀ H' M', Keep H M H' M' → SqK p K H' a xs) (r : RepA K H M xs ds) (e' : ∀ H' M', Keep H M H' M' → SqK q K H' b ys) (r' : RepA K H M ys es) :
    ItD K H M (ItzX p q K a b) (zipD ds es) (fun _ => True) where
  go := fun i H' M' k R _ hi => by
    rw [zipD_length] at hi
    have h1 : i < xs.length := by rw [r.length]; omega
    have h2 : i < ys.length := by rw [r'.length]; omega
    exact ⟨xs, ys, xs[i], ys[i], e _ _ k, e' _ _ k, by simp [h1], by simp [h2]⟩
  yld := fun i H' M' x H2 k R _ hi ⟨T, y, z, e1, hT, e2, q1, q2⟩ => by
    subst e1 e2
    rw [zipD_length] at hi
    have h1 : i < ds.length := by omega
    have h2 : i < es.length := by omega
    obtain ⟨v, hv, rv⟩ := (RepA.keep k _ _ r).get (i := i) (d := ds[i]) (by simp [h1])
    obtain ⟨u, hu, ru⟩ := (RepA.keep k _ _ r').get (i := i) (d := es[i]) (by simp [h2])
    have := q1 xs (e _ _ k)
    rw [hv] at this
    cases this
    have := q2 ys (e' _ _ k)
    rw [hu] at this
    cases this
    exact ⟨_, zipD_get ds es i _ _ (by simp [h1]) (by simp [h2]), Keep.new R hT, R.new hT, pair_rep R hT rv ru⟩
  stop := fun H' M' k R _ => ⟨xs, ys, e _ _ k, e' _ _ k, by rw [r.length, zipD_length]; omega, by rw [r'.length, zipD_length]; omega⟩
def zipX2 : List DV → Mem → (List DV → (Mem → Prop) → Mem → Prop) → Prop
  | [.d (.tuple xs), .d (.list ys)], M, Q => xs.length = ys.length ∧ Q (zipD xs ys) (fun _ => True) M
  | [.d (.list xs), .d (.list ys)], M, Q => xs.length = ys.length ∧ Q (zipD xs ys) (fun _ => True) M
  | [.d (.tuple xs), .d (.tuple ys)], M, Q => xs.length = ys.length ∧ Q (zipD xs ys) (fun _ => True) M
  | [.d (.list xs), .d (.tuple ys)], M, Q => xs.length = ys.length ∧ Q (zipD xs ys) (fun _ => True) M
  | _, _, _ => False
def srcZx (wa : WA) : WI := fun δ M Q => wa δ M fun ds M1 => zipX2 ds M1 Q
theorem RepP.lstK {K : PySem.W.Frag} {H : Hp} {M : Mem} {v : V} {ds : List PyData} (h : RepP K H M v (.list ds)) : ∃ a xs, v = .ref a ∧ (∀ H' M', Keep H M H' M' → SqL K H' a xs) ∧ RepA K H M xs ds := by
  obtain ⟨a, xs, e, h1, h2, r⟩ := RepP.lst_inv h
  exact ⟨a, xs, e, fun H' M' k => SqL.of (k _ h2 _ h1).1, r⟩
theorem di_zipX {X : Cx} {e e2 : Expr} {wa : WA} {p pos tpos kp cp : Pos} {elts : List Expr} {kk cj : Nat} (hg : Gl X "zip") (hm : X.mg "zip" = none) (ha : DA X [e, e2] wa)
    (hs : starEach [e, e2] X.env = (false, eval e X.env) :: starEach [e2] X.env := by rfl) (hpl : (backTo pos (starEach [e, e2] X.env)).any (·.1) = false := by rfl) :
    DI X (.Tuple elts kk tpos) (.Call (.Name "zip" p) [e, e2] [⟨some "strict", .Constant (.bool true) cj cp, kp⟩] pos) (srcZx wa) :=
  pi_imp (pi_zipX hg hm ha hs hpl) fun σ H R ⟨δ, M, Qd, S, Rm, h, E⟩ => ⟨δ, M, _, S, Rm, h, fun ds M1 vs H1 k1 R1 r1 h1 => by
    unfold zipX2 at h1
    split at h1
    · obtain ⟨v, u, rfl, rv, ru⟩ := two_inv r1
      obtain ⟨a, xs, e1, s1, ra⟩ := RepP.tupK rv
      obtain ⟨b, ys, e2, s2, rb⟩ := RepP.lstK ru
      subst e1 e2
      exact ⟨false, true, a, b, xs, ys, rfl, s1 _ _ (Keep.refl _ _), s2 _ _ (Keep.refl _ _), E _ _ M1 H1 _ k1 R1 h1.2 (itd_zipX (p := false) (q := true) h1.1 s1 ra s2 rb)⟩
    · obtain ⟨v, u, rfl, rv, ru⟩ := two_inv r1
      obtain ⟨a, xs, e1, s1, ra⟩ := RepP.lstK rv
      obtain ⟨b, ys, e2, s2, rb⟩ := RepP.lstK ru
      subst e1 e2
      exact ⟨true, true, a, b, xs, ys, rfl, s1 _ _ (Keep.refl _ _), s2 _ _ (Keep.refl _ _), E _ _ M1 H1 _ k1 R1 h1.2 (itd_zipX (p := true) (q := true) h1.1 s1 ra s2 rb)⟩
    · obtain ⟨v, u, rfl, rv, ru⟩ := two_inv r1
      obtain ⟨a, xs, e1, s1, ra⟩ := RepP.tupK rv
      obtain ⟨b, ys, e2, s2, rb⟩ := RepP.tupK ru
      subst e1 e2
      exact ⟨false, false, a, b, xs, ys, rfl, s1 _ _ (Keep.refl _ _), s2 _ _ (Keep.refl _ _), E _ _ M1 H1 _ k1 R1 h1.2 (itd_zipX (p := false) (q := false) h1.1 s1 ra s2 rb)⟩
    · obtain ⟨v, u, rfl, rv, ru⟩ := two_inv r1
      obtain ⟨a, xs, e1, s1, ra⟩ := RepP.lstK rv
      obtain ⟨b, ys, e2, s2, rb⟩ := RepP.tupK ru
      subst e1 e2
      exact ⟨true, false, a, b, xs, ys, rfl, s1 _ _ (Keep.refl _ _), s2 _ _ (Keep.refl _ _), E _ _ M1 H1 _ k1 R1 h1.2 (itd_zipX (p := true) (q := false) h1.1 s1 ra s2 rb)⟩
    · exact h1.elim⟩
end DL
namespace RZ
open PySem PySem.SeqAt PySem.MeetsSeq
open PySem.AutoSeq1 (wpAny_loadPart')
theorem tuple_eq_declines_dict (l b : Addr) (items : Array Value) (n : Nat) (dd dd2 : Option Addr) (sl sl2 : Array (Option Value)) (dat : Data) :
    Meets (Builtin.«tuple.__eq__» ⟨[.ref l, .ref b], []⟩) (fun _ R s => s.heap.get? l = some { cls := .type "tuple", dict := dd, data := .seq items n, slots := sl } ∧ s.heap.get? b = some { cls := .type "dict", dict := dd2, data := dat, slots := sl2 } ∧ R (.ok (.ret .notImplemented)) s) :=
  .of_wp fun prog w A R s h => by obtain ⟨hp, g, d, tk, os⟩ := s; obtain ⟨hl, hb, h⟩ := h; have f1 := PySem.F.sub_dict_tuple; wp_walk using wpAny_loadPart' hl, wpAny_loadPart' hb; exact ⟨_, rfl, h⟩
theorem RcAt.dict_tuple {A : Around} {s : Shared} {l b : Addr} {o : Obj} {items2 : Array Value} (ho : s.heap.get? l = some o) (hc : o.cls = .type "dict") (hb : s.heap.IsTuple b items2) (hu : A.units < cLine) : RcAt A s (.ref l) (.ref b) false := fun prog w E Q h => by
  obtain ⟨cls, dd, data, sl⟩ := o
  obtain ⟨⟨cls2, dd2, data2, sl2⟩, ho2, hc2, n2, hd2⟩ := id hb
  simp only at hc hc2 hd2
  subst hc hc2 hd2
  have hne : l ≠ b := fun e => by
    subst e
    rw [ho] at ho2
    have h9 := congrArg Obj.cls (Option.some.inj ho2)
    simp at h9
  have hT : s.TypeIs (.ref l) "dict" := ⟨_, ho, rfl⟩
  have hT2 : s.TypeIs (.ref b) "tuple" := ⟨_, ho2, rfl⟩
  exact (rc_eq_decline_or (k := false) hT hT2 (by decide) PySem.F.sub_tuple_dict PySem.F.slot_dict_eq PySem.F.slot_tuple_eq_refl
    (fun _ hq => by
      refine wpAny_call_entry PySem.F.slot_dict_eq hT PySem.F.entry_dict_eq ?_ (PySem.F.args_dict_eq_2 _ _)
      show wpAny _ _ (Builtin.Dict.dictSlotArgs "__eq__" ⟨[.ref l, .ref b], []⟩ >>= _) _ _ s
      refine wpAny_bind ?_
      unfold Builtin.Dict.dictSlotArgs
      refine wpAny_bind (wpAny_notOrdered_dict hT ?_)
      show wpAny _ _ (pure (Value.ref l, Value.ref b)) _ _ s
      refine wpAny_pure ?_
      refine wpAny_bind (wpAny_isInstance (T := "tuple") (U := "dict") (b := false) hT2 PySem.F.sub_tuple_dict ?_)
      simp only [Bool.not_false, if_true]
      exact wpAny_bind (wpAny_rule (wpAny_pure ⟨_, rfl, hq⟩)))
    (fun _ hq => call_meets PySem.F.slot_tuple_eq_refl hT2 PySem.F.entry_tuple_eq (PySem.F.args_tuple_eq_2 _ _) (tuple_eq_declines_dict b l items2 n2 dd2 dd sl2 sl data) ⟨ho2, ho, hq⟩)
    (fun _ hq => wpAny_isSame_ref_other hne ho ho2 (by simp) hq) (.inr hu) h)
theorem rc_nil {A : Around} {s : Shared} {a b : Value} {da : PyData} {as bs : List Addr} (ra : Reads s.heap a da as) (rb : Reads s.heap b (.tuple []) bs) (hu : A.units + 64 < cLine) : RcAt A s a b (PyData.eqv da (.tuple [])) := by
  have hr : A.units < cLine := by omega
  cases rb with
  | tuple k1 k2 k3 k4 =>
    have ht : s.heap.IsTuple _ _ := ⟨_, k1, k2, _, k3⟩
    cases ra with
    | none => exact RcAt.none_tuple ht hr
    | bool x => exact RcAt.bool_tuple x ht hr
    | int x t => exact RcAt.int_tuple x t ht hr
    | str x t => exact RcAt.str_tuple x t ht hr
    | list h1 h2 h3 h4 => exact RcAt.list_tuple ⟨_, h1, h2, _, h3⟩ ht hr
    | dict h1 h2 h3 h4 h5 => exact RcAt.dict_tuple h1 h2 ht hr
    | @tuple l o vs n xs as₁ h1 h2 h3 h4 =>
      have n1 : vs.size = xs.length := by simpa using ReadsAll.length _ _ _ h4
      rename_i b' o' vs' n'
      have n2 : vs'.size = 0 := by simpa using ReadsAll.length _ _ _ k4
      have := RcAt.tuples (e := fun j => pairEq xs [] j) ⟨_, h1, h2, _, h3⟩ ht hr (fun j j1 j2 => by omega)
      rw [n1, n2] at this
      show RcAt A s _ _ (PyData.eqvAll xs [])
      rw [← eqvAll_eq xs []]
      exact this
end RZ
namespace DL
open PySem PySem.Spec L2 RZ
open PyProof.Rows hiding St
section
variable {X : Cx}
def eq0D : DV → DV → Mem → DQ → Prop
  | .d a, .d (.tuple []), M, Q => Q (.d (.bool (PyData.eqv a (.tuple [])))) M
  | _, _, M, Q => False
theorem od_eq0 (hu : X.A.units + 64 < cLine) : OpD X (compareOp .Eq) eq0D := by
  intro pins s σ H x y v u Q I rv ru ⟨dx, dy, M, Qd, R, rx, ry, q, E⟩
  unfold eq0D at q
  split at q
  · obtain ⟨as, h1⟩ := RepP.reads I _ x v rx rv
    obtain ⟨bs, h2⟩ := RepP.reads I _ y u ry ru
    exact rc_nil h1 h2 hu _ _ _ _ ⟨.bl _, H, I, rfl, E (.d _) _ _ _ (Keep.refl _ _) R (.bl _) q⟩
  · exact q.elim
end
def repLM : DV → DV → Mem → DQ → Prop
  | .d (.list xs), .d (.int k), M, Q => 0 ≤ k ∧ k ≤ 1000 ∧ xs.length ≤ 1000 ∧ ∀ p, M p = none → Q (.r p) (mupd M p (.lst ((List.replicate k.toNat xs).flatten.map .d)))
  | _, _, _, _ => False
theorem od_repLM {X : Cx} : OpD X (binaryOp .Mult) repLM :=
  opR_imp op_rep fun x y H Q ⟨dx, dy, M, Qd, R, rx, ry, q, E⟩ => by
    unfold repLM at q
    split at q
    · rename_i ds k
      obtain ⟨h1, h2, hl, q⟩ := q
      have rx' : RepP X.K H M x (.list ds) := rx
      obtain ⟨a, xs, e, s, _, ra⟩ := RepP.lst_inv rx'
      have ry' := RepP.int_inv ry
      refine ⟨a, k, xs, e, ry', s, by omega, by omega, ?_, fun p hp => E.lstM R (ra.rep k.toNat).toL hp (q p (R.no hp))⟩
      rw [ra.length, sizeLine_eq]
      have a1 : ds.length * k.toNat ≤ 1000 * 1000 := Nat.mul_le_mul hl (by omega)
      omega
    · exact q.elim
def addLM : DV → DV → Mem → DQ → Prop := fun x y M Q => match viewD M x, viewD M y with
  | some (.list xs), some (.list ys) => xs.length + ys.length ≤ sizeLine ∧ ∀ p, M p = none → Q (.r p) (mupd M p (.lst ((xs ++ ys).map .d)))
  | _, _ => False
theorem view_repQ {K : PySem.W.Frag} {H : Hp} {M : Mem} {v : V} {dv : DV} {xs : List PyData} (R : RelM K H M) (r : Rep K H M v dv) (h : viewD M dv = some (.list xs)) : ∃ a vs, v = .ref a ∧ H a = some (.lst vs) ∧ RepA K H M vs xs := by
  cases dv with
  | d x =>
    cases h
    have r : RepP K H M v (.list xs) := r
    obtain ⟨a, vs, e, s, _, ra⟩ := RepP.lst_inv r
    exact ⟨a, vs, e, s, ra⟩
  | s ns => cases h
  | r b =>
    obtain ⟨ys, e, e2⟩ := Option.map_eq_some_iff.mp h
    cases e2
    obtain ⟨vs, s, ra⟩ := lstMD_inv R e
    exact ⟨b, vs, r, s, ra⟩
theorem od_addLM {X : Cx} : OpD X (binaryOp .Add) addLM :=
  opR_imp op_cat fun x y H Q ⟨dx, dy, M, Qd, R, rx, ry, q, E⟩ => by
    unfold addLM at q
    split at q
    · rename_i ds es h1 h2
      obtain ⟨a, xs, e1, s1, ra⟩ := view_repQ R rx h1
      obtain ⟨b, ys, e2, s2, rb⟩ := view_repQ R ry h2
      exact ⟨a, b, xs, ys, e1, e2, s1, s2, by rw [ra.length, rb.length]; exact q.1, fun p hp => E.lstM R (ra.append rb).toL hp (q.2 p (R.no hp))⟩
    · exact q.elim
end DL
namespace DL
open PySem PySem.Spec L2 RZ
open PyProof.Rows hiding St

inductive PV where
  | d (x : PyData)
  | pen
  | s (ns : List Int)
abbrev PSt := Nat → Option PV
abbrev PD := Nat → Option PyData
def pvD : PV → Option PyData
  | .d x => some x
  | _ => none
def pd (σ : PSt) : PD := fun i => (σ i).bind pvD
def up (π : PD) : PSt := fun i => (π i).map .d
def put {α : Type} (σ : Nat → Option α) (i : Nat) (v : α) : Nat → Option α := fun j => if j = i then some v else σ j
def wipeP {α : Type} (σ : Nat → Option α) : List Nat → Nat → Option α
  | [] => σ
  | v :: vs => fun j => if j = v then none else wipeP σ vs j
theorem pd_up (π : PD) : pd (up π) = π := by
  funext i
  unfold pd up
  cases π i <;> rfl
theorem up_put (π : PD) (i : Nat) (x : PyData) : put (up π) i (.d x) = up (put π i x) := by
  funext j
  unfold put up
  by_cases h : j = i
  · simp [h]
  · simp [h]
theorem pd_put (σ : PSt) (i : Nat) (x : PyData) : pd (put σ i (.d x)) = put (pd σ) i x := by
  funext j
  unfold put pd
  by_cases h : j = i
  · simp [h, pvD]
  · simp [h]
theorem up_wipe (π : PD) (vs : List Nat) : wipeP (up π) vs = up (wipeP π vs) := by
  induction vs with
  | nil => rfl
  | cons v vs ih =>
    funext j
    simp only [wipeP, up, ih]
    by_cases h : j = v
    · simp [h]
    · simp [h, up]
theorem pd_wipe (σ : PSt) (vs : List Nat) : pd (wipeP σ vs) = wipeP (pd σ) vs := by
  induction vs with
  | nil => rfl
  | cons v vs ih =>
    funext j
    have := congrFun ih j
    simp only [wipeP, pd] at this ⊢
    by_cases h : j = v
    · simp [h]
    · simp only [h, if_false]; exact this
def eV (a : Addr) : PV → DV
  | .d x => .d x
  | .pen => .r a
  | .s ns => .s ns
def moD : PyData → Option MO
  | .list xs => some (.lst (xs.map .d))
  | _ => none
def SlotV (hp : Bool) (a : Addr) (mu : List Nat) (M0 M : Mem) (i : Nat) (v : PV) (dv : DV) : Prop :=
  (i ∉ mu ∧ dv = eV a v ∧ (v = .pen → hp = true)) ∨ (i ∈ mu ∧ ∃ b x m, dv = .r b ∧ (hp = true → b ≠ a) ∧ M0 b = none ∧ moD x = some m ∧ M b = some m ∧ v = .d x)
structure Own (L : Nat) (hp : Bool) (a : Addr) (mu : List Nat) (M0 : Mem) (δ : SD) (M : Mem) (σ : PSt) (n : Nat) : Prop where
  len : δ.length = L
  pen : hp = true → ∃ mo, M a = some mo ∧ PenMO n mo
  sub : ∀ b m, M0 b = some m → (hp = true → b ≠ a) → M b = some m
  at_ : ∀ i v, σ i = some v → ∃ dv, δ[i]? = some (some dv) ∧ SlotV hp a mu M0 M i v dv
  uniq : ∀ i j b, i ≠ j → i ∈ mu → (σ i).isSome = true → (σ j).isSome = true → δ[i]? = some (some (.r b)) → δ[j]? = some (some (.r b)) → False
section
variable {L : Nat} {hp : Bool} {a : Addr} {mu : List Nat} {M0 M M' : Mem} {δ δ' : SD} {σ σ' : PSt} {n n' : Nat}
theorem SlotV.mem {i : Nat} {v : PV} {dv : DV} (h : SlotV hp a mu M0 M i v dv) (k : ∀ b m, M b = some m → (hp = true → b ≠ a) → M0 b = none → dv = .r b → M' b = some m) : SlotV hp a mu M0 M' i v dv := by
  rcases h with h | ⟨h1, b, x, m, h2, h3, h4, hm, h5, h6⟩
  · exact .inl h
  · exact .inr ⟨h1, b, x, m, h2, h3, h4, hm, k b _ h5 h3 h4 h2, h6⟩
theorem Own.back {σ1 : PSt} {δ1 : SD} (O : Own L hp a mu M0 δ M σ n) (O1 : Own L hp a mu M0 δ1 M' σ1 n') (h : ∀ j ∈ mu, δ1[j]? = δ[j]? ∧ σ1 j = σ j) : Own L hp a mu M0 δ M' σ n' where
  len := O.len
  pen := O1.pen
  sub := O1.sub
  at_ := fun i v e => by
    by_cases hi : i ∈ mu
    · obtain ⟨h1, h2⟩ := h i hi
      obtain ⟨dv, e1, s⟩ := O1.at_ i v (by rw [h2]; exact e)
      exact ⟨dv, by rw [← h1]; exact e1, s⟩
    · obtain ⟨dv, e1, s⟩ := O.at_ i v e
      rcases s with s | s
      · exact ⟨dv, e1, .inl s⟩
      · exact absurd s.1 hi
  uniq := O.uniq
theorem Own.penUp {mo' : MO} (O : Own L hp a mu M0 δ M σ n) (h : hp = true) (p : PenMO n' mo') : Own L hp a mu M0 δ (mupd M a mo') σ n' where
  len := O.len
  pen := fun _ => ⟨mo', mupd_same, p⟩
  sub := fun b m e hb => by rw [mupd_ne (hb h)]; exact O.sub b m e hb
  at_ := fun i v e => by
    obtain ⟨dv, e1, s⟩ := O.at_ i v e
    exact ⟨dv, e1, s.mem fun b xs hb hne _ _ => by rw [mupd_ne (hne h)]; exact hb⟩
  uniq := O.uniq
theorem Own.fresh {p : Addr} (O : Own L hp a mu M0 δ M σ n) (h : M p = none) : (hp = true → p ≠ a) ∧ M0 p = none := by
  have h1 : hp = true → p ≠ a := fun hh e => by
    obtain ⟨mo, e2, _⟩ := O.pen hh
    rw [← e, h] at e2
    cases e2
  refine ⟨h1, ?_⟩
  cases q : M0 p with
  | none => rfl
  | some m => rw [O.sub p m q h1] at h; cases h
theorem Own.newD {D : Addr} {o : MO} (O : Own L hp a mu M0 δ M σ n) (h : M D = none) : Own L hp a mu (mupd M0 D o) δ (mupd M D o) σ n where
  len := O.len
  pen := fun hh => by
    obtain ⟨mo, e, p⟩ := O.pen hh
    exact ⟨mo, by rw [mupd_ne (Ne.symm ((O.fresh h).1 hh))]; exact e, p⟩
  sub := fun b m e hb => by
    by_cases hD : b = D
    · subst hD; rw [mupd_same] at e ⊢; exact e
    · rw [mupd_ne hD] at e ⊢; exact O.sub b m e hb
  at_ := fun i v e => by
    obtain ⟨dv, e1, s⟩ := O.at_ i v e
    refine ⟨dv, e1, ?_⟩
    rcases s with s | ⟨h1, b, x, m, h2, h3, h4, hm, h5, h6⟩
    · exact .inl s
    · have hne : b ≠ D := by rintro rfl; rw [h] at h5; cases h5
      exact .inr ⟨h1, b, x, m, h2, h3, by rw [mupd_ne hne]; exact h4, hm, by rw [mupd_ne hne]; exact h5, h6⟩
  uniq := O.uniq
theorem Own.unD {D : Addr} {o : MO} (O : Own L hp a mu (mupd M0 D o) δ M σ n) (h0 : M0 D = none) (ha : hp = true → D ≠ a) : M D = some o ∧ Own L hp a mu M0 δ (mdel M D) σ n := by
  refine ⟨O.sub D o mupd_same ha, ?_, ?_, ?_, ?_, O.uniq⟩
  · exact O.len
  · intro hh
    obtain ⟨mo, e, p⟩ := O.pen hh
    exact ⟨mo, by rw [mdel_ne (Ne.symm (ha hh))]; exact e, p⟩
  · intro b m e hb
    have hne : b ≠ D := by rintro rfl; rw [h0] at e; cases e
    rw [mdel_ne hne]
    exact O.sub b m (by rw [mupd_ne hne]; exact e) hb
  · intro i v e
    obtain ⟨dv, e1, s⟩ := O.at_ i v e
    refine ⟨dv, e1, ?_⟩
    rcases s with s | ⟨h1, b, x, m, h2, h3, h4, hm, h5, h6⟩
    · exact .inl s
    · have hne : b ≠ D := by rintro rfl; rw [mupd_same] at h4; cases h4
      rw [mupd_ne hne] at h4
      exact .inr ⟨h1, b, x, m, h2, h3, h4, hm, by rw [mdel_ne hne]; exact h5, h6⟩
theorem Own.put (O : Own L hp a mu M0 δ M σ n) {i : Nat} (hi : i < L) (hm : i ∉ mu) {v : PV} (hv : v = .pen → hp = true) : Own L hp a mu M0 (δ.set i (some (eV a v))) M (put σ i v) n where
  len := by rw [List.length_set]; exact O.len
  pen := O.pen
  sub := O.sub
  at_ := fun j x e => by
    unfold DL.put at e
    by_cases h : j = i
    · subst h
      rw [if_pos rfl] at e
      cases e
      exact ⟨_, List.getElem?_set_self (by rw [O.len]; exact hi), .inl ⟨hm, rfl, hv⟩⟩
    · rw [if_neg h] at e
      rw [List.getElem?_set_ne (Ne.symm h)]
      exact O.at_ j x e
  uniq := fun j k b hjk hj s1 s2 e1 e2 => by
    have hji : j ≠ i := by rintro rfl; exact hm hj
    rw [List.getElem?_set_ne (Ne.symm hji)] at e1
    unfold DL.put at s1 s2
    rw [if_neg hji] at s1
    by_cases h : k = i
    · subst h
      rw [List.getElem?_set_self (by rw [O.len]; exact hi)] at e2
      obtain ⟨v', hv'⟩ := Option.isSome_iff_exists.mp s1
      obtain ⟨dv, e3, s⟩ := O.at_ j v' hv'
      rw [e1] at e3
      cases e3
      rcases s with s | ⟨_, b', x, m, h2, h3, _⟩
      · exact s.1 hj
      · cases h2
        cases v with
        | d x => cases e2
        | s ns => cases e2
        | pen => cases e2; exact h3 (hv rfl) rfl
    · rw [List.getElem?_set_ne (Ne.symm h)] at e2
      rw [if_neg h] at s2
      exact O.uniq j k b hjk hj s1 s2 e1 e2
theorem Own.newO (O : Own L hp a mu M0 δ M σ n) {i : Nat} (hi : i < L) (hm : i ∈ mu) {p : Addr} (hp' : M p = none) {x : PyData} {mo : MO} (hx : moD x = some mo) : Own L hp a mu M0 (δ.set i (some (.r p))) (mupd M p mo) (DL.put σ i (.d x)) n where
  len := by rw [List.length_set]; exact O.len
  pen := fun hh => by
    obtain ⟨mo, e, q⟩ := O.pen hh
    exact ⟨mo, by rw [mupd_ne (Ne.symm ((O.fresh hp').1 hh))]; exact e, q⟩
  sub := fun b m e hb => by
    have hne : b ≠ p := by rintro rfl; rw [(O.fresh hp').2] at e; cases e
    rw [mupd_ne hne]; exact O.sub b m e hb
  at_ := fun j x e => by
    unfold DL.put at e
    by_cases h : j = i
    · subst h
      rw [if_pos rfl] at e
      cases e
      exact ⟨_, List.getElem?_set_self (by rw [O.len]; exact hi), .inr ⟨hm, p, x, mo, rfl, (O.fresh hp').1, (O.fresh hp').2, hx, mupd_same, rfl⟩⟩
    · rw [if_neg h] at e
      rw [List.getElem?_set_ne (Ne.symm h)]
      obtain ⟨dv, e1, s⟩ := O.at_ j x e
      exact ⟨dv, e1, s.mem fun b xs hb _ _ _ => by
        rw [mupd_ne (by rintro rfl; rw [hp'] at hb; cases hb)]; exact hb⟩
  uniq := by
    have key : ∀ j b, j ≠ i → (σ j).isSome = true → δ[j]? = some (some (.r b)) → b ≠ p := by
      intro j b hj s e
      obtain ⟨v', hv'⟩ := Option.isSome_iff_exists.mp s
      obtain ⟨dv, e3, s⟩ := O.at_ j v' hv'
      rw [e] at e3
      cases e3
      rcases s with ⟨_, s, s2⟩ | ⟨_, b', x, m, h2, _, _, _, h5, _⟩
      · cases v' with
        | d x => cases s
        | s ns => cases s
        | pen => cases s; exact Ne.symm ((O.fresh hp').1 (s2 rfl))
      · cases h2
        rintro rfl
        rw [hp'] at h5
        cases h5
    intro j k b hjk hj s1 s2 e1 e2
    unfold DL.put at s1 s2
    by_cases h1 : j = i
    · subst h1
      have hk : k ≠ j := Ne.symm hjk
      rw [List.getElem?_set_self (by rw [O.len]; exact hi)] at e1
      cases e1
      rw [List.getElem?_set_ne hjk] at e2
      rw [if_neg hk] at s2
      exact key k _ hk s2 e2 rfl
    · rw [List.getElem?_set_ne (Ne.symm h1)] at e1
      rw [if_neg h1] at s1
      by_cases h2 : k = i
      · subst h2
        rw [List.getElem?_set_self (by rw [O.len]; exact hi)] at e2
        cases e2
        exact key j _ h1 s1 e1 rfl
      · rw [List.getElem?_set_ne (Ne.symm h2)] at e2
        rw [if_neg h2] at s2
        exact O.uniq j k b hjk hj s1 s2 e1 e2
theorem Own.newL (O : Own L hp a mu M0 δ M σ n) {i : Nat} (hi : i < L) (hm : i ∈ mu) {p : Addr} (hp' : M p = none) (xs : List PyData) : Own L hp a mu M0 (δ.set i (some (.r p))) (mupd M p (.lst (xs.map .d))) (DL.put σ i (.d (.list xs))) n := O.newO hi hm hp' rfl
theorem Own.obj (O : Own L hp a mu M0 δ M σ n) {i : Nat} (hm : i ∈ mu) {v : PV} (hv : σ i = some v) : ∃ b x mo, v = .d x ∧ δ[i]? = some (some (.r b)) ∧ moD x = some mo ∧ M b = some mo ∧ (hp = true → b ≠ a) ∧ M0 b = none := by
  obtain ⟨dv, e, s⟩ := O.at_ i v hv
  rcases s with s | ⟨_, b, x, m, h2, h3, h4, hx, h5, h6⟩
  · exact absurd hm s.1
  · subst h2
    exact ⟨b, x, m, h6, e, hx, h5, h3, h4⟩
theorem Own.list (O : Own L hp a mu M0 δ M σ n) {i : Nat} (hm : i ∈ mu) {xs : List PyData} (hv : σ i = some (.d (.list xs))) : ∃ b ys, (PV.d (.list xs)) = .d (.list ys) ∧ δ[i]? = some (some (.r b)) ∧ M b = some (.lst (ys.map .d)) := by
  obtain ⟨b, x, m, e, h1, h2, h3, _⟩ := O.obj hm hv
  cases e
  cases h2
  exact ⟨b, xs, rfl, h1, h3⟩
theorem Own.putO (O : Own L hp a mu M0 δ M σ n) {i : Nat} (hm : i ∈ mu) {v : PV} (hv : σ i = some v) {b : Addr} (hb : δ[i]? = some (some (.r b))) {y : PyData} {mo : MO} (hy : moD y = some mo) : Own L hp a mu M0 δ (mupd M b mo) (DL.put σ i (.d y)) n := by
  obtain ⟨b', x, m, e, h1, h2, h5, h3, h4⟩ := O.obj hm hv
  rw [hb] at h1
  cases h1
  refine ⟨O.len, ?_, ?_, ?_, ?_⟩
  · intro hh
    obtain ⟨mo, e, q⟩ := O.pen hh
    exact ⟨mo, by rw [mupd_ne (Ne.symm (h3 hh))]; exact e, q⟩
  · intro c m e hc
    have hne : c ≠ b := by rintro rfl; rw [h4] at e; cases e
    rw [mupd_ne hne]; exact O.sub c m e hc
  · intro j x e
    unfold DL.put at e
    by_cases h : j = i
    · subst h
      rw [if_pos rfl] at e
      cases e
      exact ⟨_, hb, .inr ⟨hm, b, y, mo, rfl, h3, h4, hy, mupd_same, rfl⟩⟩
    · rw [if_neg h] at e
      obtain ⟨dv, e1, s⟩ := O.at_ j x e
      exact ⟨dv, e1, s.mem fun c xs hc _ _ hdv => by
        rw [mupd_ne]
        · exact hc
        · rintro rfl
          subst hdv
          exact O.uniq i j c (Ne.symm h) hm (by rw [hv]; rfl) (by rw [e]; rfl) hb e1⟩
  · intro j k c hjk hj s1 s2 e1 e2
    have fix : ∀ j, (DL.put σ i (.d y) j).isSome = true → (σ j).isSome = true := fun j s => by
      unfold DL.put at s
      by_cases h : j = i
      · subst h; rw [hv]; rfl
      · rw [if_neg h] at s; exact s
    exact O.uniq j k c hjk hj (fix j s1) (fix k s2) e1 e2
theorem Own.putL (O : Own L hp a mu M0 δ M σ n) {i : Nat} (hm : i ∈ mu) {v : PV} (hv : σ i = some v) {b : Addr} (hb : δ[i]? = some (some (.r b))) (ys : List PyData) : Own L hp a mu M0 δ (mupd M b (.lst (ys.map .d))) (DL.put σ i (.d (.list ys))) n := O.putO hm hv hb rfl
theorem Own.frz (O : Own L hp a mu M0 δ M σ n) {i : Nat} (hi : i < L) {b : Addr} {x : PyData} (hv : σ i = some (.d x)) (hm : i ∈ mu) (hb : δ[i]? = some (some (.r b))) : Own L hp a (mu.filter (· != i)) M0 (δ.set i (some (.d x))) (mdel M b) σ n := by
  obtain ⟨b', x', m, e, h1, h2, h5, h3, h4⟩ := O.obj hm hv
  cases e
  rw [hb] at h1
  cases h1
  have hmem : ∀ j, j ∈ mu.filter (· != i) ↔ j ∈ mu ∧ j ≠ i := fun j => by simp
  refine ⟨by rw [List.length_set]; exact O.len, ?_, ?_, ?_, ?_⟩
  · intro hh
    obtain ⟨mo, e, q⟩ := O.pen hh
    exact ⟨mo, by rw [mdel_ne (Ne.symm (h3 hh))]; exact e, q⟩
  · intro c m e hc
    have hne : c ≠ b := by rintro rfl; rw [h4] at e; cases e
    rw [mdel_ne hne]; exact O.sub c m e hc
  · intro j v e
    by_cases h : j = i
    · subst h
      rw [hv] at e
      cases e
      exact ⟨_, List.getElem?_set_self (by rw [O.len]; exact hi), .inl ⟨fun q => ((hmem j).mp q).2 rfl, rfl, fun q => by cases q⟩⟩
    · rw [List.getElem?_set_ne (Ne.symm h)]
      obtain ⟨dv, e1, s⟩ := O.at_ j v e
      refine ⟨dv, e1, ?_⟩
      rcases s with ⟨s1, s2⟩ | ⟨s1, c, y, m', q1, q2, q3, q4, q5, q6⟩
      · exact .inl ⟨fun q => s1 ((hmem j).mp q).1, s2⟩
      · refine .inr ⟨(hmem j).mpr ⟨s1, h⟩, c, y, m', q1, q2, q3, q4, ?_, q6⟩
        rw [mdel_ne]
        · exact q5
        · rintro rfl
          subst q1
          exact O.uniq i j c (Ne.symm h) hm (by rw [hv]; rfl) (by rw [e]; rfl) hb e1
  · intro j k c hjk hj s1 s2 e1 e2
    obtain ⟨hj1, hj2⟩ := (hmem j).mp hj
    rw [List.getElem?_set_ne (Ne.symm hj2)] at e1
    by_cases h : k = i
    · subst h
      rw [List.getElem?_set_self (by rw [O.len]; exact hi)] at e2
      cases e2
    · rw [List.getElem?_set_ne (Ne.symm h)] at e2
      exact O.uniq j k c hjk hj1 s1 s2 e1 e2
theorem wipeD_len (δ : SD) : ∀ vs : List Nat, (wipeD δ vs).length = δ.length
  | [] => rfl
  | v :: vs => by simp [wipeD, wipeD_len δ vs]
theorem wipeD_at (δ : SD) {j : Nat} : ∀ {vs : List Nat}, j ∉ vs → (wipeD δ vs)[j]? = δ[j]?
  | [], _ => rfl
  | v :: vs, h => by
    simp only [List.mem_cons, not_or] at h
    unfold wipeD
    rw [List.getElem?_set_ne (Ne.symm h.1)]
    exact wipeD_at δ h.2
theorem wipeP_at {α : Type} (σ : Nat → Option α) {j : Nat} : ∀ {vs : List Nat}, j ∉ vs → wipeP σ vs j = σ j
  | [], _ => rfl
  | v :: vs, h => by
    simp only [List.mem_cons, not_or] at h
    unfold wipeP
    rw [if_neg h.1]
    exact wipeP_at σ h.2
theorem wipeP_in {α : Type} (σ : Nat → Option α) {j : Nat} : ∀ {vs : List Nat}, j ∈ vs → wipeP σ vs j = none
  | v :: vs, h => by
    unfold wipeP
    by_cases e : j = v
    · rw [if_pos e]
    · rw [if_neg e]
      exact wipeP_in σ ((List.mem_cons.mp h).resolve_left e)
theorem Own.wipe (O : Own L hp a mu M0 δ M σ n) (vs : List Nat) : Own L hp a mu M0 (wipeD δ vs) M (wipeP σ vs) n where
  len := by rw [wipeD_len]; exact O.len
  pen := O.pen
  sub := O.sub
  at_ := fun i v e => by
    by_cases h : i ∈ vs
    · rw [wipeP_in σ h] at e; cases e
    · rw [wipeP_at σ h] at e
      rw [wipeD_at δ h]
      exact O.at_ i v e
  uniq := fun i j b hij hi s1 s2 e1 e2 => by
    by_cases h : i ∈ vs
    · rw [wipeP_in σ h] at s1; cases s1
    by_cases h' : j ∈ vs
    · rw [wipeP_in σ h'] at s2; cases s2
    rw [wipeP_at σ h] at s1
    rw [wipeP_at σ h'] at s2
    rw [wipeD_at δ h] at e1
    rw [wipeD_at δ h'] at e2
    exact O.uniq i j b hij hi s1 s2 e1 e2
end
abbrev WK := PV → Nat → Prop
abbrev UE := PSt → Nat → WK → Prop
abbrev UT := PSt → Nat → (Bool → Nat → Prop) → Prop
abbrev UA := PSt → Nat → (List PV → Nat → Prop) → Prop
abbrev UI := PSt → Nat → (List PyData → Nat → Prop) → Prop
abbrev FE := PD → Option PyData
abbrev FT := PD → Option Bool
abbrev FA := PD → Option (List PyData)
def emb (f : FE) : UE := fun σ n Q => ∃ x, f (pd σ) = some x ∧ Q (.d x) n
def embT (f : FT) : UT := fun σ n Q => ∃ x, f (pd σ) = some x ∧ Q x n
def embA (f : FA) : UA := fun σ n Q => ∃ xs, f (pd σ) = some xs ∧ Q (xs.map .d) n
def embI (f : FA) : UI := fun σ n Q => ∃ xs, f (pd σ) = some xs ∧ Q xs n
def Res (st hp : Bool) (a : Addr) (δ : SD) (σ : PSt) (v : PV) (dv : DV) : Prop := (dv = eV a v ∧ (v = .pen → hp = true)) ∨ (st = false ∧ ∃ i, σ i = some v ∧ δ[i]? = some (some dv))
def ResL (st hp : Bool) (a : Addr) (δ : SD) (σ : PSt) (vs : List PV) (ds : List DV) : Prop := Paired (Res st hp a δ σ) vs ds
def SimE (L : Nat) (mu : List Nat) (st : Bool) (w : WE) (u : UE) : Prop := ∀ (hp : Bool) (a : Addr) (M0 : Mem) (δ : SD) (M : Mem) (σ : PSt) (n : Nat) (Q : DQ) (Z : WK), Own L hp a mu M0 δ M σ n → u σ n Z →
  (∀ v n' M' dv, Own L hp a mu M0 δ M' σ n' → Res st hp a δ σ v dv → Z v n' → Q dv M') → w δ M Q
def SimT (L : Nat) (mu : List Nat) (w : WT) (u : UT) : Prop := ∀ (hp : Bool) (a : Addr) (M0 : Mem) (δ : SD) (M : Mem) (σ : PSt) (n : Nat) (Q : Bool → Mem → Prop) (Z : Bool → Nat → Prop), Own L hp a mu M0 δ M σ n → u σ n Z →
  (∀ v n' M', Own L hp a mu M0 δ M' σ n' → Z v n' → Q v M') → w δ M Q
def SimA (L : Nat) (mu : List Nat) (st : Bool) (w : WA) (u : UA) : Prop := ∀ (hp : Bool) (a : Addr) (M0 : Mem) (δ : SD) (M : Mem) (σ : PSt) (n : Nat) (Q : List DV → Mem → Prop) (Z : List PV → Nat → Prop), Own L hp a mu M0 δ M σ n → u σ n Z →
  (∀ vs n' M' ds, Own L hp a mu M0 δ M' σ n' → ResL st hp a δ σ vs ds → Z vs n' → Q ds M') → w δ M Q
def SimI (L : Nat) (mu : List Nat) (w : WI) (u : UI) : Prop := ∀ (hp : Bool) (a : Addr) (M0 : Mem) (δ : SD) (M : Mem) (σ : PSt) (n : Nat) (Q : List DV → (Mem → Prop) → Mem → Prop) (Z : List PyData → Nat → Prop), Own L hp a mu M0 δ M σ n → u σ n Z →
  (∀ xs n' M', Own L hp a mu M0 δ M' σ n' → Z xs n' → Q (xs.map .d) (fun _ => True) M') → w δ M Q
abbrev SimP (L : Nat) (mu : List Nat) (st : Bool) (w : WE) (f : FE) : Prop := SimE L mu st w (emb f)
abbrev SimPT (L : Nat) (mu : List Nat) (w : WT) (f : FT) : Prop := SimT L mu w (embT f)
abbrev SimPA (L : Nat) (mu : List Nat) (st : Bool) (w : WA) (f : FA) : Prop := SimA L mu st w (embA f)
abbrev SimPI (L : Nat) (mu : List Nat) (w : WI) (f : FA) : Prop := SimI L mu w (embI f)
section
variable {L : Nat} {mu : List Nat} {st st' : Bool} {w wa wb wc : WE} {u u' ua ub : UE}
theorem SimE.mono (h : SimE L mu st w u) (k : ∀ σ n Q, u' σ n Q → u σ n Q) : SimE L mu st w u' := fun hp a M0 δ M σ n Q Z O q e => h hp a M0 δ M σ n Q Z O (k _ _ _ q) e
theorem SimT.mono {w : WT} {u u' : UT} (h : SimT L mu w u) (k : ∀ σ n Q, u' σ n Q → u σ n Q) : SimT L mu w u' := fun hp a M0 δ M σ n Q Z O q e => h hp a M0 δ M σ n Q Z O (k _ _ _ q) e
theorem SimA.mono {w : WA} {u u' : UA} (h : SimA L mu st w u) (k : ∀ σ n Q, u' σ n Q → u σ n Q) : SimA L mu st w u' := fun hp a M0 δ M σ n Q Z O q e => h hp a M0 δ M σ n Q Z O (k _ _ _ q) e
theorem SimI.mono {w : WI} {u u' : UI} (h : SimI L mu w u) (k : ∀ σ n Q, u' σ n Q → u σ n Q) : SimI L mu w u' := fun hp a M0 δ M σ n Q Z O q e => h hp a M0 δ M σ n Q Z O (k _ _ _ q) e
theorem Res.view {hp : Bool} {a : Addr} {M0 M : Mem} {δ : SD} {σ : PSt} {n : Nat} {x : PyData} {dv : DV} (O : Own L hp a mu M0 δ M σ n) (r : Res st hp a δ σ (.d x) dv) : viewD M dv = some x := by
  rcases r with ⟨rfl, _⟩ | ⟨_, i, h1, h2⟩
  · rfl
  · obtain ⟨dv', e, s⟩ := O.at_ i _ h1
    rw [h2] at e
    cases e
    rcases s with ⟨_, rfl, _⟩ | ⟨_, b, y, m, rfl, _, _, hx, h5, h6⟩
    · rfl
    · cases h6
      cases x <;> cases hx
      exact viewD_at h5
theorem Res.strict {hp : Bool} {a : Addr} {δ : SD} {σ : PSt} {v : PV} {dv : DV} (r : Res true hp a δ σ v dv) : dv = eV a v ∧ (v = .pen → hp = true) := by
  rcases r with h | ⟨h, _⟩
  · exact h
  · cases h
theorem Res.of {hp : Bool} {a : Addr} {δ : SD} {σ : PSt} {x : PyData} : Res st hp a δ σ (.d x) (.d x) := .inl ⟨rfl, fun h => by cases h⟩
theorem ResL.views {hp : Bool} {a : Addr} {M0 M : Mem} {δ : SD} {σ : PSt} {n : Nat} (O : Own L hp a mu M0 δ M σ n) : ∀ {xs : List PyData} {ds : List DV}, ResL st hp a δ σ (xs.map .d) ds → viewL M ds = some xs
  | [], _, h => by cases h; rfl
  | x :: xs, _, h => by
    cases h with
    | cons h1 h2 =>
      show (viewD M _).bind _ = _
      rw [Res.view O h1]
      show (viewL M _).map _ = _
      rw [ResL.views O h2]
      rfl
theorem ResL.strict {hp : Bool} {a : Addr} {δ : SD} {σ : PSt} : ∀ {vs : List PV} {ds : List DV}, ResL true hp a δ σ vs ds → ds = vs.map (eV a) ∧ (.pen ∈ vs → hp = true)
  | [], _, h => by cases h; exact ⟨rfl, fun h => by cases h⟩
  | v :: vs, _, h => by
    cases h with
    | cons h1 h2 =>
      obtain ⟨e1, p1⟩ := h1.strict
      obtain ⟨e2, p2⟩ := ResL.strict h2
      refine ⟨by rw [e1, e2]; rfl, fun h => ?_⟩
      rcases List.mem_cons.mp h with h | h
      · exact p1 h.symm
      · exact p2 h
theorem map_eV (a : Addr) (xs : List PyData) : (xs.map PV.d).map (eV a) = xs.map DV.d := by rw [List.map_map]; rfl
def uV (i : Nat) : UE := fun σ n Q => ∃ v, σ i = some v ∧ Q v n
def pV (i : Nat) : FE := fun π => π i
theorem se_var (i : Nat) : SimE L mu false (wV i) (uV i) := fun hp a M0 δ M σ n Q Z O ⟨v, e, q⟩ E => by
  obtain ⟨dv, e1, s⟩ := O.at_ i v e
  unfold wV
  rw [e1]
  exact E v n M dv O (.inr ⟨rfl, i, e, e1⟩) q
theorem se_varS (i : Nat) (hi : i ∉ mu) : SimE L mu st (wV i) (uV i) := fun hp a M0 δ M σ n Q Z O ⟨v, e, q⟩ E => by
  obtain ⟨dv, e1, s⟩ := O.at_ i v e
  unfold wV
  rw [e1]
  rcases s with ⟨_, s, p⟩ | ⟨h, _⟩
  · exact E v n M dv O (.inl ⟨s, p⟩) q
  · exact absurd h hi
theorem emb_var (i : Nat) : ∀ σ n Q, emb (pV i) σ n Q → uV i σ n Q := fun σ n Q ⟨x, e, q⟩ => by
  unfold pV pd at e
  cases h : σ i with
  | none => rw [h] at e; cases e
  | some v =>
    rw [h] at e
    cases v with
    | d y => cases e; exact ⟨_, h, q⟩
    | pen => cases e
    | s ns => cases e
theorem sp_var (i : Nat) : SimP L mu false (wV i) (pV i) := (se_var i).mono (emb_var i)
theorem sp_varS (i : Nat) (hi : i ∉ mu) : SimP L mu st (wV i) (pV i) := (se_varS i hi).mono (emb_var i)
def pC (d : PyData) : FE := fun _ => some d
theorem sp_c (d : PyData) : SimP L mu st (wC (.d d)) (pC d) := fun hp a M0 δ M σ n Q Z O ⟨x, e, q⟩ E => by
  cases e
  exact E _ n M _ O Res.of q
def OpS (rd : R2D) (g : PyData → PyData → Option PyData) : Prop := ∀ x y z M Q, g x y = some z → Q (.d z) M → rd (.d x) (.d y) M Q
def OpV (rd : R2D) (g : PyData → PyData → Option PyData) : Prop := ∀ dx dy x y z M Q, viewD M dx = some x → viewD M dy = some y → g x y = some z → Q (.d z) M → rd dx dy M Q
def onD (v : PV) (k : PyData → Prop) : Prop := match v with
  | .d x => k x
  | _ => False
theorem onD_d {x : PyData} {k : PyData → Prop} : onD (.d x) k = k x := rfl
theorem onD_inv {v : PV} {k : PyData → Prop} (h : onD v k) : ∃ x, v = .d x ∧ k x := by
  cases v with
  | d x => exact ⟨x, rfl, h⟩
  | pen => exact h.elim
  | s ns => exact h.elim
def uOp (g : PyData → PyData → Option PyData) (ua ub : UE) : UE := fun σ n Q => ua σ n fun v n1 => ub σ n1 fun v' n2 => onD v fun x => onD v' fun y => ∃ z, g x y = some z ∧ Q (.d z) n2
def pOp (g : PyData → PyData → Option PyData) (fa fb : FE) : FE := fun π => (fa π).bind fun x => (fb π).bind fun y => g x y
theorem se_op {rd : R2D} {g : PyData → PyData → Option PyData} (ho : OpS rd g) (ha : SimE L mu true wa ua) (hb : SimE L mu true wb ub) : SimE L mu st (wOp rd wa wb) (uOp g ua ub) := fun hp a M0 δ M σ n Q Z O q E => by
  refine ha hp a M0 δ M σ n _ _ O q fun v n1 M1 dv O1 r1 q1 => ?_
  refine hb hp a M0 δ M1 σ n1 _ _ O1 q1 fun v' n2 M2 dv' O2 r2 q2 => ?_
  obtain ⟨x, rfl, q3⟩ := onD_inv q2
  obtain ⟨y, rfl, z, hz, q4⟩ := onD_inv q3
  rw [r1.strict.1, r2.strict.1]
  exact ho x y z M2 Q hz (E _ n2 M2 _ O2 Res.of q4)
theorem se_opV {rd : R2D} {g : PyData → PyData → Option PyData} (ho : OpV rd g) (ha : SimE L mu false wa ua) (hb : SimE L mu false wb ub) : SimE L mu st (wOp rd wa wb) (uOp g ua ub) := fun hp a M0 δ M σ n Q Z O q E => by
  refine ha hp a M0 δ M σ n _ _ O q fun v n1 M1 dv O1 r1 q1 => ?_
  refine hb hp a M0 δ M1 σ n1 _ _ O1 q1 fun v' n2 M2 dv' O2 r2 q2 => ?_
  obtain ⟨x, rfl, q3⟩ := onD_inv q2
  obtain ⟨y, rfl, z, hz, q4⟩ := onD_inv q3
  exact ho dv dv' x y z M2 Q (r1.view O2) (r2.view O2) hz (E _ n2 M2 _ O2 Res.of q4)
theorem emb_op {g : PyData → PyData → Option PyData} {fa fb : FE} : ∀ σ n Q, emb (pOp g fa fb) σ n Q → uOp g (emb fa) (emb fb) σ n Q := fun σ n Q ⟨z, e, q⟩ => by
  obtain ⟨x, e1, e⟩ := Option.bind_eq_some_iff.mp e
  obtain ⟨y, e2, e⟩ := Option.bind_eq_some_iff.mp e
  exact ⟨x, e1, y, e2, z, e, q⟩
theorem sp_op {rd : R2D} {g : PyData → PyData → Option PyData} {fa fb : FE} (ho : OpS rd g) (ha : SimP L mu true wa fa) (hb : SimP L mu true wb fb) : SimP L mu st (wOp rd wa wb) (pOp g fa fb) := (se_op ho ha hb).mono emb_op
theorem sp_opV {rd : R2D} {g : PyData → PyData → Option PyData} {fa fb : FE} (ho : OpV rd g) (ha : SimP L mu false wa fa) (hb : SimP L mu false wb fb) : SimP L mu st (wOp rd wa wb) (pOp g fa fb) := (se_opV ho ha hb).mono emb_op
def uUn (g : PyData → Option PyData) (ua : UE) : UE := fun σ n Q => ua σ n fun v n1 => onD v fun x => ∃ z, g x = some z ∧ Q (.d z) n1
def pUn (g : PyData → Option PyData) (fa : FE) : FE := fun π => (fa π).bind g
theorem emb_un {g : PyData → Option PyData} {fa : FE} : ∀ σ n Q, emb (pUn g fa) σ n Q → uUn g (emb fa) σ n Q := fun σ n Q ⟨z, e, q⟩ => by
  obtain ⟨x, e1, e⟩ := Option.bind_eq_some_iff.mp e
  exact ⟨x, e1, z, e, q⟩
theorem se_unS {rd : DV → Mem → DQ → Prop} {g : PyData → Option PyData} (ho : ∀ x z M Q, g x = some z → Q (.d z) M → rd (.d x) M Q) (ha : SimE L mu true wa ua) : SimE L mu st (fun δ M Q => wa δ M fun x M1 => rd x M1 Q) (uUn g ua) := fun hp a M0 δ M σ n Q Z O q E => by
  refine ha hp a M0 δ M σ n _ _ O q fun v n1 M1 dv O1 r1 q1 => ?_
  obtain ⟨x, rfl, z, hz, q2⟩ := onD_inv q1
  rw [r1.strict.1]
  exact ho x z M1 Q hz (E _ n1 M1 _ O1 Res.of q2)
theorem se_unV {rd : DV → Mem → DQ → Prop} {g : PyData → Option PyData} (ho : ∀ dx x z M Q, viewD M dx = some x → g x = some z → Q (.d z) M → rd dx M Q) (ha : SimE L mu false wa ua) : SimE L mu st (fun δ M Q => wa δ M fun x M1 => rd x M1 Q) (uUn g ua) := fun hp a M0 δ M σ n Q Z O q E => by
  refine ha hp a M0 δ M σ n _ _ O q fun v n1 M1 dv O1 r1 q1 => ?_
  obtain ⟨x, rfl, z, hz, q2⟩ := onD_inv q1
  exact ho dv x z M1 Q (r1.view O1) hz (E _ n1 M1 _ O1 Res.of q2)
def gNeg : PyData → Option PyData
  | .int i => some (.int (-i))
  | _ => none
theorem se_neg (ha : SimE L mu true wa ua) : SimE L mu st (wNeg wa) (uUn gNeg ua) := se_unS (rd := fun x M1 Q => match x with
  | .d (.int i) => Q (.d (.int (-i))) M1
  | _ => False) (fun x z M Q h q => by cases x <;> cases h; exact q) ha
theorem sp_neg {fa : FE} (ha : SimP L mu true wa fa) : SimP L mu st (wNeg wa) (pUn gNeg fa) := (se_neg ha).mono emb_un
def onB (v : PV) (k : Bool → Prop) : Prop := match v with
  | .d (.bool b) => k b
  | _ => False
theorem onB_b {b : Bool} {k : Bool → Prop} : onB (.d (.bool b)) k = k b := rfl
theorem onB_inv {v : PV} {k : Bool → Prop} (h : onB v k) : ∃ b, v = .d (.bool b) ∧ k b := by
  unfold onB at h
  split at h
  · exact ⟨_, rfl, h⟩
  · exact h.elim
def asB : PyData → Option Bool
  | .bool b => some b
  | _ => none
theorem asB_inv {x : PyData} {b : Bool} (h : asB x = some b) : x = .bool b := by cases x <;> cases h; rfl
def uB (u : UE) : UT := fun σ n Q => u σ n fun v n1 => onB v fun b => Q b n1
def pB (f : FE) : FT := fun π => (f π).bind asB
theorem st_b (h : SimE L mu true w u) : SimT L mu (wB w) (uB u) := fun hp a M0 δ M σ n Q Z O q E => by
  refine h hp a M0 δ M σ n _ _ O q fun v n1 M1 dv O1 r1 q1 => ?_
  obtain ⟨b, rfl, q2⟩ := onB_inv q1
  rw [r1.strict.1]
  exact E b n1 M1 O1 q2
theorem embT_b {f : FE} : ∀ σ n Q, embT (pB f) σ n Q → uB (emb f) σ n Q := fun σ n Q ⟨b, e, q⟩ => by
  obtain ⟨x, e1, e⟩ := Option.bind_eq_some_iff.mp e
  cases asB_inv e
  exact ⟨_, e1, q⟩
theorem spt_b {f : FE} (h : SimP L mu true w f) : SimPT L mu (wB w) (pB f) := (st_b h).mono embT_b
def uNotT (u : UT) : UT := fun σ n Q => u σ n fun b n1 => Q (!b) n1
def pNotT (f : FT) : FT := fun π => (f π).map (!·)
def uAndT (u v : UT) : UT := fun σ n Q => u σ n fun b n1 => if b = true then v σ n1 Q else Q false n1
def pAndT (f g : FT) : FT := fun π => (f π).bind fun b => if b = true then g π else some false
def uOrT (u v : UT) : UT := fun σ n Q => u σ n fun b n1 => if b = true then Q true n1 else v σ n1 Q
def pOrT (f g : FT) : FT := fun π => (f π).bind fun b => if b = true then some true else g π
section
variable {t t2 : WT} {v v2 : UT} {f f2 : FT}
theorem st_not (h : SimT L mu t v) : SimT L mu (wNotT t) (uNotT v) := fun hp a M0 δ M σ n Q Z O q E => h hp a M0 δ M σ n _ _ O q fun b n1 M1 O1 q1 => E _ n1 M1 O1 q1
theorem st_and (h : SimT L mu t v) (h2 : SimT L mu t2 v2) : SimT L mu (wAndT t t2) (uAndT v v2) := fun hp a M0 δ M σ n Q Z O q E => by
  refine h hp a M0 δ M σ n _ _ O q fun b n1 M1 O1 q1 => ?_
  by_cases hb : b = true
  · rw [if_pos hb] at q1 ⊢
    exact h2 hp a M0 δ M1 σ n1 _ _ O1 q1 E
  · rw [if_neg hb] at q1 ⊢
    exact E _ n1 M1 O1 q1
theorem st_or (h : SimT L mu t v) (h2 : SimT L mu t2 v2) : SimT L mu (wOrT t t2) (uOrT v v2) := fun hp a M0 δ M σ n Q Z O q E => by
  refine h hp a M0 δ M σ n _ _ O q fun b n1 M1 O1 q1 => ?_
  by_cases hb : b = true
  · rw [if_pos hb] at q1 ⊢
    exact E _ n1 M1 O1 q1
  · rw [if_neg hb] at q1 ⊢
    exact h2 hp a M0 δ M1 σ n1 _ _ O1 q1 E
theorem spt_not (h : SimPT L mu t f) : SimPT L mu (wNotT t) (pNotT f) := (st_not h).mono fun σ n Q ⟨b, e, q⟩ => by
  obtain ⟨c, e1, rfl⟩ := Option.map_eq_some_iff.mp e
  exact ⟨c, e1, q⟩
theorem spt_and (h : SimPT L mu t f) (h2 : SimPT L mu t2 f2) : SimPT L mu (wAndT t t2) (pAndT f f2) := (st_and h h2).mono fun σ n Q ⟨b, e, q⟩ => by
  obtain ⟨c, e1, e⟩ := Option.bind_eq_some_iff.mp e
  refine ⟨c, e1, ?_⟩
  cases c
  · cases e; exact q
  · exact ⟨b, e, q⟩
theorem spt_or (h : SimPT L mu t f) (h2 : SimPT L mu t2 f2) : SimPT L mu (wOrT t t2) (pOrT f f2) := (st_or h h2).mono fun σ n Q ⟨b, e, q⟩ => by
  obtain ⟨c, e1, e⟩ := Option.bind_eq_some_iff.mp e
  refine ⟨c, e1, ?_⟩
  cases c
  · exact ⟨b, e, q⟩
  · cases e; exact q
def uBV (v : UT) : UE := fun σ n Q => v σ n fun b n1 => Q (.d (.bool b)) n1
def pBV (f : FT) : FE := fun π => (f π).map .bool
theorem se_andV (ha : SimE L mu true wa ua) (hb : SimE L mu true wb ub) : SimE L mu st (wAndV wa wb) (fun σ n Q => ua σ n fun v n1 => onB v fun b => if b = true then ub σ n1 Q else Q (.d (.bool false)) n1) := fun hp a M0 δ M σ n Q Z O q E => by
  refine ha hp a M0 δ M σ n _ _ O q fun v n1 M1 dv O1 r1 q1 => ?_
  obtain ⟨b, rfl, q2⟩ := onB_inv q1
  rw [r1.strict.1]
  show if b = true then _ else _
  by_cases h : b = true
  · rw [if_pos h] at q2 ⊢
    exact hb hp a M0 δ M1 σ n1 _ _ O1 q2 fun v n' M' dv O' r' q' => E v n' M' dv O' (.inl r'.strict) q'
  · rw [if_neg h] at q2 ⊢
    exact E _ n1 M1 _ O1 Res.of q2
theorem se_orV (ha : SimE L mu true wa ua) (hb : SimE L mu true wb ub) : SimE L mu st (wOrV wa wb) (fun σ n Q => ua σ n fun v n1 => onB v fun b => if b = true then Q (.d (.bool true)) n1 else ub σ n1 Q) := fun hp a M0 δ M σ n Q Z O q E => by
  refine ha hp a M0 δ M σ n _ _ O q fun v n1 M1 dv O1 r1 q1 => ?_
  obtain ⟨b, rfl, q2⟩ := onB_inv q1
  rw [r1.strict.1]
  show if b = true then _ else _
  by_cases h : b = true
  · rw [if_pos h] at q2 ⊢
    exact E _ n1 M1 _ O1 Res.of q2
  · rw [if_neg h] at q2 ⊢
    exact hb hp a M0 δ M1 σ n1 _ _ O1 q2 fun v n' M' dv O' r' q' => E v n' M' dv O' (.inl r'.strict) q'
def pAndV (fa fb : FE) : FE := fun π => (fa π).bind fun x => (asB x).bind fun b => if b = true then fb π else some (.bool false)
def pOrV (fa fb : FE) : FE := fun π => (fa π).bind fun x => (asB x).bind fun b => if b = true then some (.bool true) else fb π
theorem sp_andV {fa fb : FE} (ha : SimP L mu true wa fa) (hb : SimP L mu true wb fb) : SimP L mu st (wAndV wa wb) (pAndV fa fb) := (se_andV ha hb).mono fun σ n Q ⟨z, e, q⟩ => by
  obtain ⟨x, e1, e'⟩ := Option.bind_eq_some_iff.mp e
  obtain ⟨b, e2, e3⟩ := Option.bind_eq_some_iff.mp e'
  cases asB_inv e2
  refine ⟨_, e1, ?_⟩
  clear e e' e2
  show onB (.d (.bool b)) _
  rw [onB_b]
  cases b
  · cases e3; exact q
  · exact ⟨z, e3, q⟩
theorem sp_orV {fa fb : FE} (ha : SimP L mu true wa fa) (hb : SimP L mu true wb fb) : SimP L mu st (wOrV wa wb) (pOrV fa fb) := (se_orV ha hb).mono fun σ n Q ⟨z, e, q⟩ => by
  obtain ⟨x, e1, e'⟩ := Option.bind_eq_some_iff.mp e
  obtain ⟨b, e2, e3⟩ := Option.bind_eq_some_iff.mp e'
  cases asB_inv e2
  refine ⟨_, e1, ?_⟩
  clear e e' e2
  show onB (.d (.bool b)) _
  rw [onB_b]
  cases b
  · exact ⟨z, e3, q⟩
  · cases e3; exact q
def gNot : PyData → Option PyData
  | .bool b => some (.bool (!b))
  | _ => none
theorem se_notV (ha : SimE L mu true wa ua) : SimE L mu st (wNotV wa) (uUn gNot ua) := se_unS (rd := fun x M1 Q => bOf (fun c M2 => Q (.d (.bool (!c))) M2) x M1) (fun x z M Q h q => by cases x <;> cases h; exact q) ha
theorem sp_notV {fa : FE} (ha : SimP L mu true wa fa) : SimP L mu st (wNotV wa) (pUn gNot fa) := (se_notV ha).mono emb_un
def uIf (v : UT) (ua ub : UE) : UE := fun σ n Q => v σ n fun b n1 => if b = true then ua σ n1 Q else ub σ n1 Q
def pIf (f : FT) (fa fb : FE) : FE := fun π => (f π).bind fun b => if b = true then fa π else fb π
theorem se_if (h : SimT L mu t v) (ha : SimE L mu st wa ua) (hb : SimE L mu st wb ub) : SimE L mu st (wIf t wa wb) (uIf v ua ub) := fun hp a M0 δ M σ n Q Z O q E => by
  refine h hp a M0 δ M σ n _ _ O q fun b n1 M1 O1 q1 => ?_
  by_cases hb' : b = true
  · rw [if_pos hb'] at q1 ⊢
    exact ha hp a M0 δ M1 σ n1 _ _ O1 q1 E
  · rw [if_neg hb'] at q1 ⊢
    exact hb hp a M0 δ M1 σ n1 _ _ O1 q1 E
theorem sp_if {fa fb : FE} (h : SimPT L mu t f) (ha : SimP L mu st wa fa) (hb : SimP L mu st wb fb) : SimP L mu st (wIf t wa wb) (pIf f fa fb) := (se_if h ha hb).mono fun σ n Q ⟨z, e, q⟩ => by
  obtain ⟨b, e1, e⟩ := Option.bind_eq_some_iff.mp e
  refine ⟨b, e1, ?_⟩
  cases b
  · exact ⟨z, e, q⟩
  · exact ⟨z, e, q⟩
end
def uChain (g g' : PyData → PyData → Option PyData) (ua ub uc : UE) : UE := fun σ n Q => ua σ n fun v n1 => ub σ n1 fun v' n2 => onD v fun x => onD v' fun y => ∃ b, g x y = some (.bool b) ∧ if b = true then uc σ n2 fun v2 n3 => onD v2 fun c => ∃ z, g' y c = some z ∧ Q (.d z) n3 else Q (.d (.bool false)) n2
def pChain (g g' : PyData → PyData → Option PyData) (fa fb fc : FE) : FE := fun π => (fa π).bind fun x => (fb π).bind fun y => (g x y).bind fun r => (asB r).bind fun b => if b = true then (fc π).bind fun c => g' y c else some (.bool false)
theorem se_chain {rd rd' : R2D} {g g' : PyData → PyData → Option PyData} {uc : UE} (ho : OpS rd g) (ho' : OpS rd' g') (ha : SimE L mu true wa ua) (hb : SimE L mu true wb ub) (hc : SimE L mu true wc uc) : SimE L mu st (wChain rd rd' wa wb wc) (uChain g g' ua ub uc) := fun hp a M0 δ M σ n Q Z O q E => by
  refine ha hp a M0 δ M σ n _ _ O q fun v n1 M1 dv O1 r1 q1 => ?_
  refine hb hp a M0 δ M1 σ n1 _ _ O1 q1 fun v' n2 M2 dv' O2 r2 q2 => ?_
  obtain ⟨x, rfl, q3⟩ := onD_inv q2
  obtain ⟨y, rfl, b, hz, q4⟩ := onD_inv q3
  rw [r1.strict.1, r2.strict.1]
  refine ho x y _ M2 _ hz ?_
  show if b = true then _ else _
  by_cases h : b = true
  · rw [if_pos h] at q4 ⊢
    refine hc hp a M0 δ M2 σ n2 _ _ O2 q4 fun v3 n3 M3 dv3 O3 r3 q3 => ?_
    obtain ⟨c, rfl, z, hz', q5⟩ := onD_inv q3
    rw [r3.strict.1]
    exact ho' y c z M3 Q hz' (E _ n3 M3 _ O3 Res.of q5)
  · rw [if_neg h] at q4 ⊢
    exact E _ n2 M2 _ O2 Res.of q4
theorem sp_chain {rd rd' : R2D} {g g' : PyData → PyData → Option PyData} {fa fb fc : FE} (ho : OpS rd g) (ho' : OpS rd' g') (ha : SimP L mu true wa fa) (hb : SimP L mu true wb fb) (hc : SimP L mu true wc fc) : SimP L mu st (wChain rd rd' wa wb wc) (pChain g g' fa fb fc) := (se_chain ho ho' ha hb hc).mono fun σ n Q ⟨z, e, q⟩ => by
  obtain ⟨x, e1, e⟩ := Option.bind_eq_some_iff.mp e
  obtain ⟨y, e2, e⟩ := Option.bind_eq_some_iff.mp e
  obtain ⟨r, e3, e'⟩ := Option.bind_eq_some_iff.mp e
  obtain ⟨b, e4, e6⟩ := Option.bind_eq_some_iff.mp e'
  cases asB_inv e4
  refine ⟨x, e1, y, e2, b, e3, ?_⟩
  clear e e' e4 e3
  cases b
  · cases e6; exact q
  · obtain ⟨c, e5, e7⟩ := Option.bind_eq_some_iff.mp e6
    exact ⟨c, e5, z, e7, q⟩
def uNil : UA := fun _ n Q => Q [] n
def uCons (ua : UE) (ur : UA) : UA := fun σ n Q => ua σ n fun v n1 => ur σ n1 fun vs n2 => Q (v :: vs) n2
def pNil : FA := fun _ => some []
def pCons (fa : FE) (fr : FA) : FA := fun π => (fa π).bind fun x => (fr π).map (x :: ·)
section
variable {wr : WA} {ur : UA} {fa : FE} {fr : FA}
theorem sa_nil : SimA L mu st wNil uNil := fun hp a M0 δ M σ n Q Z O q E => E [] n M [] O .nil q
theorem sa_cons (ha : SimE L mu st wa ua) (hr : SimA L mu st wr ur) : SimA L mu st (wCons wa wr) (uCons ua ur) := fun hp a M0 δ M σ n Q Z O q E => by
  refine ha hp a M0 δ M σ n _ _ O q fun v n1 M1 dv O1 r1 q1 => ?_
  exact hr hp a M0 δ M1 σ n1 _ _ O1 q1 fun vs n2 M2 ds O2 r2 q2 => E _ n2 M2 _ O2 (.cons r1 r2) q2
theorem spa_nil : SimPA L mu st wNil pNil := sa_nil.mono fun σ n Q ⟨xs, e, q⟩ => by cases e; exact q
theorem spa_cons (ha : SimP L mu st wa fa) (hr : SimPA L mu st wr fr) : SimPA L mu st (wCons wa wr) (pCons fa fr) := (sa_cons ha hr).mono fun σ n Q ⟨xs, e, q⟩ => by
  obtain ⟨x, e1, e⟩ := Option.bind_eq_some_iff.mp e
  obtain ⟨ys, e2, rfl⟩ := Option.map_eq_some_iff.mp e
  exact ⟨x, e1, ys, e2, q⟩
def dsOf : List PV → Option (List PyData)
  | [] => some []
  | .d x :: r => (dsOf r).map (x :: ·)
  | _ :: _ => none
theorem dsOf_eq : ∀ {vs : List PV} {xs : List PyData}, dsOf vs = some xs → vs = xs.map .d
  | [], _, h => by cases h; rfl
  | .d x :: r, _, h => by
    unfold dsOf at h
    obtain ⟨l, e, rfl⟩ := Option.map_eq_some_iff.mp h
    rw [dsOf_eq e]
    rfl
  | .pen :: _, _, h => by cases h
  | .s _ :: _, _, h => by cases h
theorem dsOf_map : ∀ xs : List PyData, dsOf (xs.map .d) = some xs
  | [] => rfl
  | x :: xs => by show (dsOf (xs.map .d)).map (x :: ·) = _; rw [dsOf_map xs]; rfl
def onDs (vs : List PV) (k : List PyData → Prop) : Prop := match dsOf vs with
  | some xs => k xs
  | none => False
theorem onDs_map {xs : List PyData} {k : List PyData → Prop} : onDs (xs.map .d) k = k xs := by unfold onDs; rw [dsOf_map]
theorem onDs_inv {vs : List PV} {k : List PyData → Prop} (h : onDs vs k) : ∃ xs, vs = xs.map .d ∧ k xs := by
  unfold onDs at h
  split at h
  · rename_i xs e
    exact ⟨xs, dsOf_eq e, h⟩
  · exact h.elim
def CbS (rd : RCD) (h : List PyData → Option PyData) : Prop := ∀ xs z M Q, h xs = some z → Q (.d z) M → rd (xs.map .d) M Q
def CbV (rd : RCD) (h : List PyData → Option PyData) : Prop := ∀ ds xs z M Q, viewL M ds = some xs → h xs = some z → Q (.d z) M → rd ds M Q
def uCall (h : List PyData → Option PyData) (ur : UA) : UE := fun σ n Q => ur σ n fun vs n1 => onDs vs fun xs => ∃ z, h xs = some z ∧ Q (.d z) n1
def pCall (h : List PyData → Option PyData) (fr : FA) : FE := fun π => (fr π).bind h
theorem emb_call {h : List PyData → Option PyData} : ∀ σ n Q, emb (pCall h fr) σ n Q → uCall h (embA fr) σ n Q := fun σ n Q ⟨z, e, q⟩ => by
  obtain ⟨xs, e1, e⟩ := Option.bind_eq_some_iff.mp e
  refine ⟨xs, e1, ?_⟩
  show onDs (List.map PV.d xs) _
  rw [onDs_map]
  exact ⟨z, e, q⟩
theorem se_cb {rd : RCD} {h : List PyData → Option PyData} (ho : CbS rd h) (hr : SimA L mu true wr ur) : SimE L mu st (wCB rd wr) (uCall h ur) := fun hp a M0 δ M σ n Q Z O q E => by
  refine hr hp a M0 δ M σ n _ _ O q fun vs n1 M1 ds O1 r1 q1 => ?_
  obtain ⟨xs, rfl, z, hz, q2⟩ := onDs_inv q1
  rw [r1.strict.1, map_eV]
  exact ho xs z M1 Q hz (E _ n1 M1 _ O1 Res.of q2)
theorem se_cbV {rd : RCD} {h : List PyData → Option PyData} (ho : CbV rd h) (hr : SimA L mu false wr ur) : SimE L mu st (wCB rd wr) (uCall h ur) := fun hp a M0 δ M σ n Q Z O q E => by
  refine hr hp a M0 δ M σ n _ _ O q fun vs n1 M1 ds O1 r1 q1 => ?_
  obtain ⟨xs, rfl, z, hz, q2⟩ := onDs_inv q1
  exact ho ds xs z M1 Q (r1.views O1) hz (E _ n1 M1 _ O1 Res.of q2)
theorem se_call {sp : SpD} {h : List PyData → Option PyData} (ho : CbS sp h) (hr : SimA L mu true wr ur) : SimE L mu st (wCall sp wr) (uCall h ur) := se_cb (rd := sp) ho hr
theorem se_callV {sp : SpD} {h : List PyData → Option PyData} (ho : CbV sp h) (hr : SimA L mu false wr ur) : SimE L mu st (wCall sp wr) (uCall h ur) := se_cbV (rd := sp) ho hr
theorem sp_cb {rd : RCD} {h : List PyData → Option PyData} (ho : CbS rd h) (hr : SimPA L mu true wr fr) : SimP L mu st (wCB rd wr) (pCall h fr) := (se_cb ho hr).mono emb_call
theorem sp_cbV {rd : RCD} {h : List PyData → Option PyData} (ho : CbV rd h) (hr : SimPA L mu false wr fr) : SimP L mu st (wCB rd wr) (pCall h fr) := (se_cbV ho hr).mono emb_call
theorem sp_call {sp : SpD} {h : List PyData → Option PyData} (ho : CbS sp h) (hr : SimPA L mu true wr fr) : SimP L mu st (wCall sp wr) (pCall h fr) := (se_call ho hr).mono emb_call
theorem sp_callV {sp : SpD} {h : List PyData → Option PyData} (ho : CbV sp h) (hr : SimPA L mu false wr fr) : SimP L mu st (wCall sp wr) (pCall h fr) := (se_callV ho hr).mono emb_call
abbrev UF := List PV → Nat → WK → Prop
def CallW (sp : SpD) (u : UF) : Prop := ∀ a vs M mo n Q Z, M a = some mo → PenMO n mo → u vs n Z → (∀ v n' mo', Z v n' → PenMO n' mo' → Q (eV a v) (mupd M a mo')) → sp (vs.map (eV a)) M Q
def uCallW (u : UF) (ur : UA) : UE := fun σ n Q => ur σ n fun vs n1 => .pen ∈ vs ∧ u vs n1 Q
theorem se_callW {sp : SpD} {u : UF} (ho : CallW sp u) (hr : SimA L mu true wr ur) : SimE L mu st (wCall sp wr) (uCallW u ur) := fun hp a M0 δ M σ n Q Z O q E => by
  refine hr hp a M0 δ M σ n _ _ O q fun vs n1 M1 ds O1 r1 q1 => ?_
  obtain ⟨e, p⟩ := r1.strict
  rw [e]
  have hh := p q1.1
  obtain ⟨mo, hM, hp'⟩ := O1.pen hh
  exact ho a vs M1 mo n1 _ _ hM hp' q1.2 fun v n' mo' hq p' => E v n' _ _ (O1.penUp hh p') (.inl ⟨rfl, fun _ => hh⟩) hq
def uMk (mk : List PyData → PyData) (ur : UA) : UE := fun σ n Q => ur σ n fun vs n1 => onDs vs fun xs => xs.length ≤ sizeLine ∧ Q (.d (mk xs)) n1
def pMk (mk : List PyData → PyData) (fr : FA) : FE := fun π => (fr π).bind fun xs => if xs.length ≤ sizeLine then some (mk xs) else none
theorem se_mk {mk : List PyData → PyData} (hr : SimA L mu true wr ur) : SimE L mu st (mkD mk wr) (uMk mk ur) := fun hp a M0 δ M σ n Q Z O q E => by
  refine hr hp a M0 δ M σ n _ _ O q fun vs n1 M1 ds O1 r1 q1 => ?_
  obtain ⟨xs, rfl, hl, q2⟩ := onDs_inv q1
  rw [r1.strict.1, map_eV, allD_map]
  exact ⟨hl, E _ n1 M1 _ O1 Res.of q2⟩
theorem sp_mk {mk : List PyData → PyData} (hr : SimPA L mu true wr fr) : SimP L mu st (mkD mk wr) (pMk mk fr) := (se_mk hr).mono fun σ n Q ⟨z, e, q⟩ => by
  obtain ⟨xs, e1, e⟩ := Option.bind_eq_some_iff.mp e
  split at e
  · rename_i hl
    cases e
    refine ⟨xs, e1, ?_⟩
    show onDs (List.map PV.d xs) _
    rw [onDs_map]
    exact ⟨hl, q⟩
  · cases e
end
end
end DL
namespace DL
open PySem PySem.Spec L2 RZ
open PyProof.Rows hiding St

abbrev UO := PSt → Nat → (Option Int → Nat → Prop) → Prop
abbrev FO := PD → Option (Option Int)
def SimO (L : Nat) (mu : List Nat) (w : SD → Mem → (Option Int → Mem → Prop) → Prop) (f : FO) : Prop := ∀ (hp : Bool) (a : Addr) (M0 : Mem) (δ : SD) (M : Mem) (σ : PSt) (n : Nat) (Q : Option Int → Mem → Prop) (z : Option Int), Own L hp a mu M0 δ M σ n → f (pd σ) = some z →
  (∀ M', Own L hp a mu M0 δ M' σ n → Q z M') → w δ M Q
section
variable {L : Nat} {mu : List Nat} {st : Bool} {w wa wb wc we : WE} {u ua ub : UE} {f fa fb fe : FE}
def pNo : FO := fun _ => some none
def asI1 : PyData → Option Int
  | .int i => some i
  | _ => none
def pPart (f : FE) : FO := fun π => (f π).bind fun x => (asI1 x).map some
theorem so_no : SimO L mu wNoPart pNo := fun hp a M0 δ M σ n Q z O e E => by cases e; exact E M O
theorem so_part (h : SimP L mu true w f) : SimO L mu (wPart w) (pPart f) := fun hp a M0 δ M σ n Q z O e E => by
  obtain ⟨x, e1, e2⟩ := Option.bind_eq_some_iff.mp e
  obtain ⟨i, e3, rfl⟩ := Option.map_eq_some_iff.mp e2
  refine h hp a M0 δ M σ n _ (fun v n' => v = .d x ∧ n' = n) O ⟨x, e1, rfl, rfl⟩ fun v n1 M1 dv O1 r1 q1 => ?_
  obtain ⟨rfl, rfl⟩ := q1
  rw [r1.strict.1]
  cases x <;> cases e3
  exact E M1 O1
def gSl : PyData → Option Int → Option Int → Option PyData
  | .tuple xs, lo, hi => some (.tuple (cutD xs lo hi))
  | .list xs, lo, hi => some (.list (cutD xs lo hi))
  | _, _, _ => none
def uSl (ua : UE) (fl fh : FO) : UE := fun σ n Q => ua σ n fun v n1 => onD v fun x => ∃ l h z, fl (pd σ) = some l ∧ fh (pd σ) = some h ∧ gSl x l h = some z ∧ Q (.d z) n1
def pSl (fa : FE) (fl fh : FO) : FE := fun π => (fa π).bind fun x => (fl π).bind fun l => (fh π).bind fun h => gSl x l h
theorem se_sl {wl wh} {fl fh : FO} (ha : SimE L mu false wa ua) (hl : SimO L mu wl fl) (hh : SimO L mu wh fh) : SimE L mu st (wSl wa wl wh) (uSl ua fl fh) := fun hp a M0 δ M σ n Q Z O q E => by
  refine ha hp a M0 δ M σ n _ _ O q fun v n1 M1 dv O1 r1 q1 => ?_
  obtain ⟨x, rfl, l, h, z, el, eh, ez, q2⟩ := onD_inv q1
  refine hl hp a M0 δ M1 σ n1 _ l O1 el fun M2 O2 => hh hp a M0 δ M2 σ n1 _ h O2 eh fun M3 O3 => ?_
  have hv := r1.view O3
  have fin := E _ n1 M3 _ O3 (Res.of (x := z)) q2
  cases dv with
  | d y => cases hv; cases x <;> cases ez <;> exact fin
  | s ns => cases hv
  | r b =>
    obtain ⟨xs, e, rfl⟩ := Option.map_eq_some_iff.mp hv
    cases ez
    show optD (lstMD M3 b) _
    rw [e]
    exact fin
theorem sp_sl {wl wh} {fl fh : FO} (ha : SimP L mu false wa fa) (hl : SimO L mu wl fl) (hh : SimO L mu wh fh) : SimP L mu st (wSl wa wl wh) (pSl fa fl fh) := (se_sl ha hl hh).mono fun σ n Q ⟨z, e, q⟩ => by
  obtain ⟨x, e1, e2⟩ := Option.bind_eq_some_iff.mp e
  obtain ⟨l, e3, e4⟩ := Option.bind_eq_some_iff.mp e2
  obtain ⟨h, e5, e6⟩ := Option.bind_eq_some_iff.mp e4
  exact ⟨x, e1, l, h, z, e3, e5, e6, q⟩
def gRev : PyData → Option PyData
  | .tuple xs => some (.tuple xs.reverse)
  | .list xs => some (.list xs.reverse)
  | _ => none
theorem se_rev (ha : SimE L mu false wa ua) : SimE L mu st (wRev wa) (uUn gRev ua) := se_unV (rd := revD) (fun dx x z M Q hv h q => by
  cases dx with
  | d y => cases hv; cases x <;> cases h <;> exact q
  | s ns => cases hv
  | r b =>
    obtain ⟨xs, e, rfl⟩ := Option.map_eq_some_iff.mp hv
    cases h
    show optD (lstMD M b) _
    rw [e]
    exact q) ha
theorem sp_rev (ha : SimP L mu false wa fa) : SimP L mu st (wRev wa) (pUn gRev fa) := (se_rev ha).mono emb_un
def uIsi (g : PyData → Bool) (ua : UE) : UE := fun σ n Q => ua σ n fun v n1 => onD v fun x => Q (.d (.bool (g x))) n1
def pIsi (g : PyData → Bool) (fa : FE) : FE := fun π => (fa π).map fun x => .bool (g x)
theorem emb_isi {g : PyData → Bool} : ∀ σ n Q, emb (pIsi g fa) σ n Q → uIsi g (emb fa) σ n Q := fun σ n Q ⟨z, e, q⟩ => by
  obtain ⟨x, e1, rfl⟩ := Option.map_eq_some_iff.mp e
  exact ⟨x, e1, q⟩
theorem se_isi {F : DV → Mem → Option Bool} {g : PyData → Bool} (hF : ∀ x M, F (.d x) M = some (g x)) (ha : SimE L mu true wa ua) : SimE L mu st (isiK F wa) (uIsi g ua) := fun hp a M0 δ M σ n Q Z O q E => by
  refine ha hp a M0 δ M σ n _ _ O q fun v n1 M1 dv O1 r1 q1 => ?_
  obtain ⟨x, rfl, q2⟩ := onD_inv q1
  rw [r1.strict.1]
  show match F (.d x) M1 with | some b => Q (.d (.bool b)) M1 | none => False
  rw [hF]
  exact E _ n1 M1 _ O1 Res.of q2
theorem se_isi1 {t : Ty} (ha : SimE L mu true wa ua) : SimE L mu st (isiK (isOne t) wa) (uIsi (isTy t) ua) := se_isi (fun _ _ => rfl) ha
theorem se_isi2 {t t' : Ty} (ha : SimE L mu true wa ua) : SimE L mu st (isiK (isTwo t t') wa) (uIsi (fun x => isTy t x || isTy t' x) ua) := se_isi (fun _ _ => rfl) ha
theorem sp_isi1 {t : Ty} (ha : SimP L mu true wa fa) : SimP L mu st (isiK (isOne t) wa) (pIsi (isTy t) fa) := (se_isi1 ha).mono emb_isi
theorem sp_isi2 {t t' : Ty} (ha : SimP L mu true wa fa) : SimP L mu st (isiK (isTwo t t') wa) (pIsi (fun x => isTy t x || isTy t' x) fa) := (se_isi2 ha).mono emb_isi
section
variable {wr : WA} {ur : UA} {fr : FA}
def uSrc (h : List PyData → Option (List PyData)) (ur : UA) : UI := fun σ n Q => ur σ n fun vs n1 => onDs vs fun xs => ∃ ys, h xs = some ys ∧ Q ys n1
def pSrc (h : List PyData → Option (List PyData)) (fr : FA) : FA := fun π => (fr π).bind h
theorem embI_src {h : List PyData → Option (List PyData)} : ∀ σ n Q, embI (pSrc h fr) σ n Q → uSrc h (embA fr) σ n Q := fun σ n Q ⟨ys, e, q⟩ => by
  obtain ⟨xs, e1, e2⟩ := Option.bind_eq_some_iff.mp e
  refine ⟨xs, e1, ?_⟩
  show onDs (List.map PV.d xs) _
  rw [onDs_map]
  exact ⟨ys, e2, q⟩
abbrev RI := List DV → Mem → (List DV → (Mem → Prop) → Mem → Prop) → Prop
def SrcS (rd : RI) (h : List PyData → Option (List PyData)) : Prop := ∀ xs ys M Q, h xs = some ys → Q (ys.map .d) (fun _ => True) M → rd (xs.map .d) M Q
theorem si_src {rd : RI} {h : List PyData → Option (List PyData)} (ho : SrcS rd h) (hr : SimA L mu true wr ur) : SimI L mu (fun δ M Q => wr δ M fun ds M1 => rd ds M1 Q) (uSrc h ur) := fun hp a M0 δ M σ n Q Z O q E => by
  refine hr hp a M0 δ M σ n _ _ O q fun vs n1 M1 ds O1 r1 q1 => ?_
  obtain ⟨xs, rfl, ys, hy, q2⟩ := onDs_inv q1
  rw [r1.strict.1, map_eV]
  exact ho xs ys M1 Q hy (E ys n1 M1 O1 q2)
theorem spi_src {rd : RI} {h : List PyData → Option (List PyData)} (ho : SrcS rd h) (hr : SimPA L mu true wr fr) : SimPI L mu (fun δ M Q => wr δ M fun ds M1 => rd ds M1 Q) (pSrc h fr) := (si_src ho hr).mono embI_src
def gSeq : PyData → Option (List PyData)
  | .list xs => some xs
  | .tuple xs => some xs
  | _ => none
def uSeqI (ua : UE) : UI := fun σ n Q => ua σ n fun v n1 => onD v fun x => ∃ ys, gSeq x = some ys ∧ Q ys n1
def pSeqI (fa : FE) : FA := fun π => (fa π).bind gSeq
theorem si_seq (ha : SimE L mu true wa ua) : SimI L mu (srcS wa) (uSeqI ua) := fun hp a M0 δ M σ n Q Z O q E => by
  refine ha hp a M0 δ M σ n _ _ O q fun v n1 M1 dv O1 r1 q1 => ?_
  obtain ⟨x, rfl, ys, hy, q2⟩ := onD_inv q1
  rw [r1.strict.1]
  cases x <;> cases hy <;> exact E _ n1 M1 O1 q2
theorem spi_seq (ha : SimP L mu true wa fa) : SimPI L mu (srcS wa) (pSeqI fa) := (si_seq ha).mono fun σ n Q ⟨ys, e, q⟩ => by
  obtain ⟨x, e1, e2⟩ := Option.bind_eq_some_iff.mp e
  exact ⟨x, e1, ys, e2, q⟩
def rngL (lo : Int) (n : Nat) : List PyData := (List.range n).map fun (i : Nat) => .int (lo + (i : Int))
theorem rngD_L (lo : Int) (n : Nat) : rngD lo n = (rngL lo n).map .d := by unfold rngD rngL; rw [List.map_map]; rfl
def gRng1 : List PyData → Option (List PyData)
  | [.int j] => if -(2 ^ 62) ≤ j ∧ j < 2 ^ 62 then some (rngL 0 j.toNat) else none
  | _ => none
def gRng2 : List PyData → Option (List PyData)
  | [.int i, .int j] => if -(2 ^ 62) ≤ i ∧ i < 2 ^ 62 ∧ -(2 ^ 62) ≤ j ∧ j < 2 ^ 62 then some (rngL i (j - i).toNat) else none
  | _ => none
theorem si_rng1 (hr : SimA L mu true wr ur) : SimI L mu (srcR1 wr) (uSrc gRng1 ur) := si_src (rd := fun ds M1 Q => match ds with
  | [.d (.int j)] => -(2 ^ 62) ≤ j ∧ j < 2 ^ 62 ∧ Q (rngD 0 j.toNat) (fun _ => True) M1
  | _ => False) (fun xs ys M Q h q => by
    unfold gRng1 at h
    split at h
    · split at h
      · rename_i hj
        cases h
        refine ⟨hj.1, hj.2, ?_⟩
        rw [rngD_L]
        exact q
      · cases h
    · cases h) hr
theorem si_rng2 (hr : SimA L mu true wr ur) : SimI L mu (srcR2 wr) (uSrc gRng2 ur) := si_src (rd := fun ds M1 Q => match ds with
  | [.d (.int i), .d (.int j)] => (-(2 ^ 62) ≤ i ∧ i < 2 ^ 62 ∧ -(2 ^ 62) ≤ j ∧ j < 2 ^ 62) ∧ Q (rngD i (j - i).toNat) (fun _ => True) M1
  | _ => False) (fun xs ys M Q h q => by
    unfold gRng2 at h
    split at h
    · split at h
      · rename_i hj
        cases h
        refine ⟨hj, ?_⟩
        rw [rngD_L]
        exact q
      · cases h
    · cases h) hr
def enumL (n : Nat) : List PyData → List PyData
  | [] => []
  | x :: xs => .tuple [.int n, x] :: enumL (n + 1) xs
theorem enumD_L : ∀ (xs : List PyData) (n : Nat), enumD n xs = (enumL n xs).map .d
  | [], _ => rfl
  | x :: xs, n => by simp only [enumD, enumL, List.map_cons, enumD_L xs (n + 1)]
def gEnum : List PyData → Option (List PyData)
  | [.list xs] => some (enumL 0 xs)
  | _ => none
def gEnumT : List PyData → Option (List PyData)
  | [.tuple xs] => some (enumL 0 xs)
  | _ => none
theorem si_enum (hr : SimA L mu true wr ur) : SimI L mu (srcE wr) (uSrc gEnum ur) := si_src (rd := fun ds M1 Q => match ds with
  | [.d (.list xs)] => Q (enumD 0 xs) (fun _ => True) M1
  | _ => False) (fun xs ys M Q h q => by
    unfold gEnum at h
    split at h
    · cases h
      show Q (enumD 0 _) _ M
      rw [enumD_L]
      exact q
    · cases h) hr
theorem si_enumT (hr : SimA L mu true wr ur) : SimI L mu (srcEt wr) (uSrc gEnumT ur) := si_src (rd := enumT1) (fun xs ys M Q h q => by
    unfold gEnumT at h
    split at h
    · cases h
      show Q (enumD 0 _) _ M
      rw [enumD_L]
      exact q
    · cases h) hr
def zipL : List PyData → List PyData → List PyData
  | x :: xs, y :: ys => .tuple [x, y] :: zipL xs ys
  | _, _ => []
theorem zipD_L : ∀ xs ys : List PyData, zipD xs ys = (zipL xs ys).map .d
  | [], ys => by unfold zipD zipL; rfl
  | _ :: _, [] => by unfold zipD zipL; rfl
  | x :: xs, y :: ys => by simp only [zipD, zipL, List.map_cons, zipD_L xs ys]
def gZip : List PyData → Option (List PyData)
  | [.list xs, .list ys] => some (zipL xs ys)
  | [.tuple xs, .tuple ys] => some (zipL xs ys)
  | _ => none
def gZipT : List PyData → Option (List PyData)
  | [.tuple xs, .tuple ys] => some (zipL xs ys)
  | _ => none
theorem si_zip (hr : SimA L mu true wr ur) : SimI L mu (srcZ wr) (uSrc gZip ur) := si_src (rd := fun ds M1 Q => match ds with
  | [.d (.list xs), .d (.list ys)] => Q (zipD xs ys) (fun _ => True) M1
  | [.d (.tuple xs), .d (.tuple ys)] => Q (zipD xs ys) (fun _ => True) M1
  | _ => False) (fun xs ys M Q h q => by
    unfold gZip at h
    split at h
    · cases h
      show Q (zipD _ _) _ M
      rw [zipD_L]
      exact q
    · cases h
      show Q (zipD _ _) _ M
      rw [zipD_L]
      exact q
    · cases h) hr
theorem si_zipS (hr : SimA L mu true wr ur) : SimI L mu (srcZs wr) (uSrc gZipT ur) := si_src (rd := zipT2) (fun xs ys M Q h q => by
    unfold gZipT at h
    split at h
    · cases h
      show Q (zipD _ _) _ M
      rw [zipD_L]
      exact q
    · cases h) hr
theorem spi_rng1 (hr : SimPA L mu true wr fr) : SimPI L mu (srcR1 wr) (pSrc gRng1 fr) := (si_rng1 hr).mono embI_src
theorem spi_rng2 (hr : SimPA L mu true wr fr) : SimPI L mu (srcR2 wr) (pSrc gRng2 fr) := (si_rng2 hr).mono embI_src
theorem spi_enum (hr : SimPA L mu true wr fr) : SimPI L mu (srcE wr) (pSrc gEnum fr) := (si_enum hr).mono embI_src
theorem spi_enumT (hr : SimPA L mu true wr fr) : SimPI L mu (srcEt wr) (pSrc gEnumT fr) := (si_enumT hr).mono embI_src
theorem spi_zip (hr : SimPA L mu true wr fr) : SimPI L mu (srcZ wr) (pSrc gZip fr) := (si_zip hr).mono embI_src
theorem spi_zipS (hr : SimPA L mu true wr fr) : SimPI L mu (srcZs wr) (pSrc gZipT fr) := (si_zipS hr).mono embI_src
end
abbrev TGt := PyData → PSt → Option PSt
def tName (i : Nat) : TGt := fun x σ => some (put σ i (.d x))
abbrev TGts := List PyData → PSt → Option PSt
def tuNil : TGts := fun xs σ => match xs with
  | [] => some σ
  | _ => none
def tuCons (t : TGt) (ts : TGts) : TGts := fun xs σ => match xs with
  | x :: r => (t x σ).bind fun σ1 => ts r σ1
  | [] => none
def tuTup (n : Nat) (ts : TGts) : TGt := fun x σ => match x with
  | .tuple xs => if xs.length = n then ts xs σ else none
  | _ => none
def SimG (L : Nat) (mu : List Nat) (vs : List Nat) (g : WG) (t : TGt) : Prop := ∀ (hp : Bool) (a : Addr) (M0 : Mem) (δ : SD) (M : Mem) (σ σ1 : PSt) (n : Nat) (x : PyData) (Q : SD → Prop), Own L hp a mu M0 δ M σ n → t x σ = some σ1 →
  (∀ δ1, Own L hp a mu M0 δ1 M σ1 n → (∀ j ∈ mu, δ1[j]? = δ[j]? ∧ σ1 j = σ j) → Q δ1) → g (.d x) δ Q
def SimGs (L : Nat) (mu : List Nat) (vs : List Nat) (g : WGs) (t : TGts) : Prop := ∀ (hp : Bool) (a : Addr) (M0 : Mem) (δ : SD) (M : Mem) (σ σ1 : PSt) (n : Nat) (xs : List PyData) (Q : SD → Prop), Own L hp a mu M0 δ M σ n → t xs σ = some σ1 →
  (∀ δ1, Own L hp a mu M0 δ1 M σ1 n → (∀ j ∈ mu, δ1[j]? = δ[j]? ∧ σ1 j = σ j) → Q δ1) → g (xs.map .d) δ Q
theorem put_ne {α : Type} {σ : Nat → Option α} {i j : Nat} {v : α} (h : j ≠ i) : put σ i v j = σ j := if_neg h
theorem put_same {α : Type} {σ : Nat → Option α} {i : Nat} {v : α} : put σ i v i = some v := if_pos rfl
theorem sg_name {vs : List Nat} (i : Nat) (hi : i < L) (hm : i ∉ mu) : SimG L mu vs (gNameD i) (tName i) := fun hp a M0 δ M σ σ1 n x Q O e E => by
  cases e
  refine E _ (O.put hi hm (v := .d x) (fun h => by cases h)) fun j hj => ?_
  have hne : j ≠ i := by rintro rfl; exact hm hj
  exact ⟨List.getElem?_set_ne (Ne.symm hne), put_ne hne⟩
theorem sg_nil {vs : List Nat} : SimGs L mu vs gNilD tuNil := fun hp a M0 δ M σ σ1 n xs Q O e E => by
  cases xs with
  | nil => cases e; exact ⟨rfl, E δ O fun _ _ => ⟨rfl, rfl⟩⟩
  | cons x xs => cases e
theorem sg_cons {vs : List Nat} {g : WG} {gs : WGs} {t : TGt} {ts : TGts} (h : SimG L mu vs g t) (hs : SimGs L mu vs gs ts) : SimGs L mu vs (gConsD g gs) (tuCons t ts) := fun hp a M0 δ M σ σ1 n xs Q O e E => by
  cases xs with
  | nil => cases e
  | cons x xs =>
    obtain ⟨σ2, e1, e2⟩ := Option.bind_eq_some_iff.mp e
    refine h hp a M0 δ M σ σ2 n x _ O e1 fun δ2 O2 k2 => ?_
    exact hs hp a M0 δ2 M σ2 σ1 n xs Q O2 e2 fun δ1 O1 k1 => E δ1 O1 fun j hj => ⟨(k1 j hj).1.trans (k2 j hj).1, (k1 j hj).2.trans (k2 j hj).2⟩
theorem sg_tup {vs : List Nat} {n : Nat} {gs : WGs} {ts : TGts} (hs : SimGs L mu vs gs ts) : SimG L mu vs (gTupD n gs) (tuTup n ts) := fun hp a M0 δ M σ σ1 m x Q O e E => by
  cases x <;> try cases e
  rename_i xs
  unfold tuTup at e
  simp only at e
  split at e
  · rename_i hl
    exact ⟨hl, hs hp a M0 δ M σ σ1 m xs Q O e E⟩
  · cases e
end
end DL
namespace DL
open PySem PySem.Spec L2 RZ
open PyProof.Rows hiding St

def uComp (t : TGt) (ut : UT) (ue : UE) (σ0 : PSt) : List PyData → List PyData → Nat → (List PyData → Nat → Prop) → Prop
  | [], acc, n, Q => Q acc n
  | x :: xs, acc, n, Q => ∃ σ1, t x σ0 = some σ1 ∧ ut σ1 n fun b n1 =>
    if b = true then ue σ1 n1 fun v n2 => onD v fun y => acc.length < sizeLine ∧ uComp t ut ue σ0 xs (acc ++ [y]) n2 Q
    else uComp t ut ue σ0 xs acc n1 Q
def uLc (ui : UI) (t : TGt) (ut : UT) (ue : UE) (vs : List Nat) : UE := fun σ n Q => ui σ n fun xs n1 => uComp t ut ue (wipeP σ vs) xs [] n1 fun acc n2 => Q (.d (.list acc)) n2
def uYes : UT := fun _ n Q => Q true n
section
variable {L : Nat} {mu : List Nat} {st : Bool} {ws ws1 : WI} {g g1 : WG} {tt tt1 : WT} {te : WE} {vs vs1 : List Nat} {ui ui1 : UI} {t t1 : TGt} {ut ut1 : UT} {ue : UE}
theorem st_yes : SimT L mu wYes uYes := fun hp a M0 δ M σ n Q Z O q E => E true n M O q
def SimJ (L : Nat) (mu : List Nat) (w : WI) (u : UI) : Prop := ∀ (hp : Bool) (a : Addr) (M0 : Mem) (δ : SD) (M : Mem) (σ : PSt) (n : Nat) (Q : List DV → (Mem → Prop) → Mem → Prop) (Z : List PyData → Nat → Prop), Own L hp a mu M0 δ M σ n → u σ n Z →
  (∀ xs n' M' ok, Own L hp a mu M0 δ M' σ n' → (∀ M2 n2, Own L hp a mu M0 δ M2 σ n2 → ok M2) → Z xs n' → Q (xs.map .d) ok M') → w δ M Q
theorem SimI.j {w : WI} {u : UI} (h : SimI L mu w u) : SimJ L mu w u := fun hp a M0 δ M σ n Q Z O q E => h hp a M0 δ M σ n Q Z O q fun xs n' M' O' z => E xs n' M' _ O' (fun _ _ _ => trivial) z
theorem SimJ.mono {w : WI} {u u' : UI} (h : SimJ L mu w u) (k : ∀ σ n Q, u' σ n Q → u σ n Q) : SimJ L mu w u' := fun hp a M0 δ M σ n Q Z O q e => h hp a M0 δ M σ n Q Z O (k _ _ _ q) e
theorem sj_seq {wa : WE} {ua : UE} (ha : SimE L mu false wa ua) : SimJ L mu (srcS wa) (uSeqI ua) := fun hp a M0 δ M σ n Q Z O q E => by
  refine ha hp a M0 δ M σ n _ _ O q fun v n1 M1 dv O1 r1 q1 => ?_
  obtain ⟨x, rfl, ys, hy, q2⟩ := onD_inv q1
  rcases r1 with ⟨rfl, _⟩ | ⟨_, i, h1, h2⟩
  · cases x <;> cases hy <;> exact E _ n1 M1 _ O1 (fun _ _ _ => trivial) q2
  · obtain ⟨dv', e, s⟩ := O1.at_ i _ h1
    rw [h2] at e
    cases e
    rcases s with ⟨_, rfl, _⟩ | ⟨hm, b, y, m, rfl, _, _, hx, h5, h6⟩
    · cases x <;> cases hy <;> exact E _ n1 M1 _ O1 (fun _ _ _ => trivial) q2
    · cases h6
      cases x <;> cases hx
      cases hy
      show match M1 b with | some (.lst xs) => _ | _ => False
      rw [h5]
      refine E _ n1 M1 _ O1 (fun M2 n2 O2 => ?_) q2
      obtain ⟨b', zs, e1, e2, e3⟩ := O2.list hm h1
      cases e1
      rw [h2] at e2
      cases e2
      exact e3
theorem Own.newD0 {hp : Bool} {a : Addr} {M0 M : Mem} {δ : SD} {σ : PSt} {n : Nat} {D : Addr} {o : MO} (O : Own L hp a mu M0 δ M σ n) (h : M D = none) : Own L hp a mu M0 δ (mupd M D o) σ n where
  len := O.len
  pen := fun hh => by
    obtain ⟨mo, e, p⟩ := O.pen hh
    exact ⟨mo, by rw [mupd_ne (Ne.symm ((O.fresh h).1 hh))]; exact e, p⟩
  sub := fun b m e hb => by
    have hne : b ≠ D := by rintro rfl; rw [(O.fresh h).2] at e; cases e
    rw [mupd_ne hne]; exact O.sub b m e hb
  at_ := fun i v e => by
    obtain ⟨dv, e1, s⟩ := O.at_ i v e
    exact ⟨dv, e1, s.mem fun b xs hb _ _ _ => by rw [mupd_ne (by rintro rfl; rw [h] at hb; cases hb)]; exact hb⟩
  uniq := O.uniq
theorem comp_sound {ok : Mem → Prop} (hg : SimG L mu vs g t) (ht : SimT L mu tt ut) (he : SimE L mu true te ue) {hp : Bool} {a : Addr} {M0 : Mem} {D : Addr} {δ0 : SD} {σ0 : PSt} (h0 : M0 D = none) (hDa : hp = true → D ≠ a) {fin : List DV → Mem → Prop} {Z : List PyData → Nat → Prop} (hok : ∀ (acc : List PyData) M n, M D = none → Own L hp a mu M0 δ0 M σ0 n → ok (mupd M D (.lst (acc.map .d)))) : ∀ (xs acc : List PyData) (M : Mem) (n : Nat), M D = none → Own L hp a mu M0 δ0 M σ0 n → uComp t ut ue σ0 xs acc n Z →
    (∀ acc' n' M', M' D = none → Own L hp a mu M0 δ0 M' σ0 n' → Z acc' n' → fin (acc'.map .d) M') → compD ok g tt te δ0 D fin (xs.map .d) (acc.map .d) M
  | [], acc, M, n, hM, O, q, E => ⟨hok acc M n hM O, E acc n M hM O q⟩
  | x :: xs, acc, M, n, hM, O, ⟨σ1, e, q⟩, E => by
    refine ⟨hok acc M n hM O, ?_⟩
    have OD := O.newD (o := .lst (acc.map .d)) hM
    refine hg hp a _ δ0 _ σ0 σ1 n x _ OD e fun δ1 O1 k1 => ?_
    refine ht hp a _ δ1 _ σ1 n _ _ O1 q fun b n1 M1 O2 q1 => ?_
    by_cases hb : b = true
    · rw [if_pos hb] at q1 ⊢
      refine he hp a _ δ1 M1 σ1 n1 _ _ O2 q1 fun v n2 M2 dv O3 r3 q2 => ?_
      obtain ⟨y, rfl, hl, q3⟩ := onD_inv q2
      rw [r3.strict.1]
      obtain ⟨hD, _⟩ := O3.unD h0 hDa
      refine ⟨hD, by simpa using hl, ?_⟩
      have := comp_sound hg ht he h0 hDa hok xs (acc ++ [y]) (mdel M2 D) n2 mdel_same ((OD.back O3 k1).unD h0 hDa).2 q3 E
      simpa [eV] using this
    · rw [if_neg hb] at q1 ⊢
      obtain ⟨hD, _⟩ := O2.unD h0 hDa
      exact ⟨hD, comp_sound hg ht he h0 hDa hok xs acc (mdel M1 D) n1 mdel_same ((OD.back O2 k1).unD h0 hDa).2 q1 E⟩
theorem wipe_agree {vs mu : List Nat} (hv : ∀ j ∈ mu, j ∉ vs) (δ : SD) (σ : PSt) : ∀ j ∈ mu, (wipeD δ vs)[j]? = δ[j]? ∧ wipeP σ vs j = σ j := fun j hj => ⟨wipeD_at δ (hv j hj), wipeP_at σ (hv j hj)⟩
theorem se_lc (hv : ∀ j ∈ mu, j ∉ vs) (hi : SimJ L mu ws ui) (hg : SimG L mu vs g t) (ht : SimT L mu tt ut) (he : SimE L mu true te ue) : SimE L mu st (wLc finF ws g tt te vs) (uLc ui t ut ue vs) := fun hp a M0 δ M σ n Q Z O q E => by
  refine hi hp a M0 δ M σ n _ _ O q fun xs n1 M1 ok O1 hok q1 => fun D hD => ?_
  refine comp_sound hg ht he (O1.fresh hD).2 (O1.fresh hD).1 (fun acc M2 n2 h2 O2 => hok _ n2 (O1.back (O2.newD0 h2) (wipe_agree hv δ σ))) xs [] M1 n1 hD (O1.wipe vs) q1 fun acc n2 M2 hM2 O2 q2 => ?_
  unfold finF
  rw [allD_map]
  exact E _ n2 M2 _ (O1.back O2 (wipe_agree hv δ σ)) Res.of q2
def uComp2 (t : TGt) (ut : UT) (ui1 : UI) (t1 : TGt) (ut1 : UT) (ue : UE) (vs1 : List Nat) (σ0 : PSt) : List PyData → List PyData → Nat → (List PyData → Nat → Prop) → Prop
  | [], acc, n, Q => Q acc n
  | x :: xs, acc, n, Q => ∃ σ1, t x σ0 = some σ1 ∧ ut σ1 n fun b n1 =>
    if b = true then ui1 σ1 n1 fun ys n2 => uComp t1 ut1 ue (wipeP σ1 vs1) ys acc n2 fun acc' n3 => uComp2 t ut ui1 t1 ut1 ue vs1 σ0 xs acc' n3 Q
    else uComp2 t ut ui1 t1 ut1 ue vs1 σ0 xs acc n1 Q
def uLc2 (ui : UI) (t : TGt) (ut : UT) (ui1 : UI) (t1 : TGt) (ut1 : UT) (ue : UE) (vs vs1 : List Nat) : UE := fun σ n Q => ui σ n fun xs n1 => uComp2 t ut ui1 t1 ut1 ue vs1 (wipeP σ vs) xs [] n1 fun acc n2 => Q (.d (.list acc)) n2
theorem comp2_sound {ok : Mem → Prop} (hv1 : ∀ j ∈ mu, j ∉ vs1) (hg : SimG L mu vs g t) (ht : SimT L mu tt ut) (hi1 : SimI L mu ws1 ui1) (hg1 : SimG L mu vs1 g1 t1) (ht1 : SimT L mu tt1 ut1) (he : SimE L mu true te ue) {hp : Bool} {a : Addr} {M0 : Mem} {D : Addr} {δ0 : SD} {σ0 : PSt} (h0 : M0 D = none) (hDa : hp = true → D ≠ a) {fin : List DV → Mem → Prop} {Z : List PyData → Nat → Prop} (hok : ∀ (acc : List PyData) M n, M D = none → Own L hp a mu M0 δ0 M σ0 n → ok (mupd M D (.lst (acc.map .d)))) : ∀ (xs acc : List PyData) (M : Mem) (n : Nat), M D = none → Own L hp a mu M0 δ0 M σ0 n → uComp2 t ut ui1 t1 ut1 ue vs1 σ0 xs acc n Z →
    (∀ acc' n' M', M' D = none → Own L hp a mu M0 δ0 M' σ0 n' → Z acc' n' → fin (acc'.map .d) M') → wLc2.comp2 ok g tt ws1 g1 tt1 te δ0 vs1 D fin (xs.map .d) (acc.map .d) M
  | [], acc, M, n, hM, O, q, E => ⟨hok acc M n hM O, E acc n M hM O q⟩
  | x :: xs, acc, M, n, hM, O, ⟨σ1, e, q⟩, E => by
    refine ⟨hok acc M n hM O, ?_⟩
    have OD := O.newD (o := .lst (acc.map .d)) hM
    refine hg hp a _ δ0 _ σ0 σ1 n x _ OD e fun δ1 O1 k1 => ?_
    refine ht hp a _ δ1 _ σ1 n _ _ O1 q fun b n1 M1 O2 q1 => ?_
    by_cases hb : b = true
    · rw [if_pos hb] at q1 ⊢
      refine hi1 hp a _ δ1 M1 σ1 n1 _ _ O2 q1 fun ys n2 M2 O3 q2 => ?_
      obtain ⟨hD, O4⟩ := O3.unD h0 hDa
      refine ⟨hD, ?_⟩
      refine comp_sound hg1 ht1 he h0 hDa (fun _ _ _ _ _ => trivial) ys acc (mdel M2 D) n2 mdel_same (O4.wipe vs1) q2 fun acc' n3 M3 hM3 O5 q3 => ?_
      have ag : ∀ j ∈ mu, (wipeD δ1 vs1)[j]? = δ0[j]? ∧ wipeP σ1 vs1 j = σ0 j := fun j hj => ⟨(wipe_agree hv1 δ1 σ1 j hj).1.trans (k1 j hj).1, (wipe_agree hv1 δ1 σ1 j hj).2.trans (k1 j hj).2⟩
      exact comp2_sound hv1 hg ht hi1 hg1 ht1 he h0 hDa hok xs acc' M3 n3 hM3 (O.back O5 ag) q3 E
    · rw [if_neg hb] at q1 ⊢
      obtain ⟨hD, _⟩ := O2.unD h0 hDa
      exact ⟨hD, comp2_sound hv1 hg ht hi1 hg1 ht1 he h0 hDa hok xs acc (mdel M1 D) n1 mdel_same ((OD.back O2 k1).unD h0 hDa).2 q1 E⟩
theorem se_lc2 (hv : ∀ j ∈ mu, j ∉ vs) (hv1 : ∀ j ∈ mu, j ∉ vs1) (hi : SimJ L mu ws ui) (hg : SimG L mu vs g t) (ht : SimT L mu tt ut) (hi1 : SimI L mu ws1 ui1) (hg1 : SimG L mu vs1 g1 t1) (ht1 : SimT L mu tt1 ut1) (he : SimE L mu true te ue) : SimE L mu st (wLc2 finF ws g tt ws1 g1 tt1 te vs vs1) (uLc2 ui t ut ui1 t1 ut1 ue vs vs1) := fun hp a M0 δ M σ n Q Z O q E => by
  refine hi hp a M0 δ M σ n _ _ O q fun xs n1 M1 ok O1 hok q1 => fun D hD => ?_
  refine comp2_sound hv1 hg ht hi1 hg1 ht1 he (O1.fresh hD).2 (O1.fresh hD).1 (fun acc M2 n2 h2 O2 => hok _ n2 (O1.back (O2.newD0 h2) (wipe_agree hv δ σ))) xs [] M1 n1 hD (O1.wipe vs) q1 fun acc n2 M2 hM2 O2 q2 => ?_
  unfold finF
  rw [allD_map]
  exact E _ n2 M2 _ (O1.back O2 (wipe_agree hv δ σ)) Res.of q2
abbrev TGp := PyData → PD → Option PD
def qName (i : Nat) : TGp := fun x π => some (put π i x)
abbrev TGps := List PyData → PD → Option PD
def qNil : TGps := fun xs π => match xs with
  | [] => some π
  | _ => none
def qCons (t : TGp) (ts : TGps) : TGps := fun xs π => match xs with
  | x :: r => (t x π).bind fun π1 => ts r π1
  | [] => none
def qTup (n : Nat) (ts : TGps) : TGp := fun x π => match x with
  | .tuple xs => if xs.length = n then ts xs π else none
  | _ => none
def TQ (t : TGt) (q : TGp) : Prop := ∀ x σ π1, q x (pd σ) = some π1 → ∃ σ1, t x σ = some σ1 ∧ pd σ1 = π1 ∧ (∀ π, σ = up π → σ1 = up π1)
def TQs (t : TGts) (q : TGps) : Prop := ∀ xs σ π1, q xs (pd σ) = some π1 → ∃ σ1, t xs σ = some σ1 ∧ pd σ1 = π1 ∧ (∀ π, σ = up π → σ1 = up π1)
theorem tq_name (i : Nat) : TQ (tName i) (qName i) := fun x σ π1 e => by
  cases e
  exact ⟨_, rfl, pd_put σ i x, fun π h => by rw [h, up_put, pd_up]⟩
theorem tq_nil : TQs tuNil qNil := fun xs σ π1 e => by
  cases xs with
  | nil => cases e; exact ⟨σ, rfl, rfl, fun π h => by rw [h, pd_up]⟩
  | cons x xs => cases e
theorem tq_cons {t : TGt} {ts : TGts} {q : TGp} {qs : TGps} (h : TQ t q) (hs : TQs ts qs) : TQs (tuCons t ts) (qCons q qs) := fun xs σ π1 e => by
  cases xs with
  | nil => cases e
  | cons x xs =>
    obtain ⟨π2, e1, e2⟩ := Option.bind_eq_some_iff.mp e
    obtain ⟨σ2, h1, h2, h3⟩ := h x σ π2 e1
    subst h2
    obtain ⟨σ1, h4, h5, h6⟩ := hs xs σ2 π1 e2
    exact ⟨σ1, by show (t x σ).bind _ = _; rw [h1]; exact h4, h5, fun π hπ => h6 _ (h3 π hπ)⟩
theorem tq_tup {n : Nat} {ts : TGts} {qs : TGps} (hs : TQs ts qs) : TQ (tuTup n ts) (qTup n qs) := fun x σ π1 e => by
  cases x <;> try cases e
  rename_i xs
  unfold qTup at e
  unfold tuTup
  simp only at e ⊢
  split at e
  · rename_i hl
    rw [if_pos hl]
    exact hs xs σ π1 e
  · cases e
def pComp (q : TGp) (ft : FT) (fe : FE) (π0 : PD) : List PyData → List PyData → Option (List PyData)
  | [], acc => some acc
  | x :: xs, acc => (q x π0).bind fun π1 => (ft π1).bind fun b =>
    if b = true then (fe π1).bind fun y => if acc.length < sizeLine then pComp q ft fe π0 xs (acc ++ [y]) else none
    else pComp q ft fe π0 xs acc
def pLc (fi : FA) (q : TGp) (ft : FT) (fe : FE) (vs : List Nat) : FE := fun π => (fi π).bind fun xs => (pComp q ft fe (wipeP π vs) xs []).map .list
def pYes : FT := fun _ => some true
theorem spt_yes : SimPT L mu wYes pYes := st_yes.mono fun σ n Q ⟨x, e, q⟩ => by cases e; exact q
section
variable {q q1 : TGp} {ft ft1 : FT} {fe : FE} {fi fi1 : FA}
theorem comp_emb (hq : TQ t q) {n : Nat} {Q : List PyData → Nat → Prop} {σ0 : PSt} : ∀ (xs acc : List PyData) (r : List PyData), pComp q ft fe (pd σ0) xs acc = some r → Q r n → uComp t (embT ft) (emb fe) σ0 xs acc n Q
  | [], acc, r, e, k => by cases e; exact k
  | x :: xs, acc, r, e, k => by
    obtain ⟨π1, e1, e2⟩ := Option.bind_eq_some_iff.mp e
    obtain ⟨b, e3, e4⟩ := Option.bind_eq_some_iff.mp e2
    obtain ⟨σ1, h1, h2, _⟩ := hq x σ0 π1 e1
    subst h2
    refine ⟨σ1, h1, b, e3, ?_⟩
    by_cases hb : b = true
    · rw [if_pos hb] at e4 ⊢
      obtain ⟨y, e5, e6⟩ := Option.bind_eq_some_iff.mp e4
      split at e6
      · rename_i hl
        exact ⟨y, e5, hl, comp_emb hq xs _ r e6 k⟩
      · cases e6
    · rw [if_neg hb] at e4 ⊢
      exact comp_emb hq xs acc r e4 k
abbrev SimPJ (L : Nat) (mu : List Nat) (w : WI) (f : FA) : Prop := SimJ L mu w (embI f)
theorem spj_seq {wa : WE} {fa : FE} (ha : SimP L mu false wa fa) : SimPJ L mu (srcS wa) (pSeqI fa) := (sj_seq ha).mono fun σ n Q ⟨ys, e, q⟩ => by
  obtain ⟨x, e1, e2⟩ := Option.bind_eq_some_iff.mp e
  exact ⟨x, e1, ys, e2, q⟩
theorem sp_lc (hv : ∀ j ∈ mu, j ∉ vs) (hi : SimPJ L mu ws fi) (hg : SimG L mu vs g t) (hq : TQ t q) (ht : SimPT L mu tt ft) (he : SimP L mu true te fe) : SimP L mu st (wLc finF ws g tt te vs) (pLc fi q ft fe vs) := (se_lc hv hi hg ht he).mono fun σ n Q ⟨z, e, k⟩ => by
  obtain ⟨xs, e1, e2⟩ := Option.bind_eq_some_iff.mp e
  obtain ⟨r, e3, rfl⟩ := Option.map_eq_some_iff.mp e2
  exact ⟨xs, e1, comp_emb (Q := fun acc n2 => Q (.d (.list acc)) n2) hq xs [] r (by rw [pd_wipe]; exact e3) k⟩
def pComp2 (q : TGp) (ft : FT) (fi1 : FA) (q1 : TGp) (ft1 : FT) (fe : FE) (vs1 : List Nat) (π0 : PD) : List PyData → List PyData → Option (List PyData)
  | [], acc => some acc
  | x :: xs, acc => (q x π0).bind fun π1 => (ft π1).bind fun b =>
    if b = true then (fi1 π1).bind fun ys => (pComp q1 ft1 fe (wipeP π1 vs1) ys acc).bind fun acc' => pComp2 q ft fi1 q1 ft1 fe vs1 π0 xs acc'
    else pComp2 q ft fi1 q1 ft1 fe vs1 π0 xs acc
def pLc2 (fi : FA) (q : TGp) (ft : FT) (fi1 : FA) (q1 : TGp) (ft1 : FT) (fe : FE) (vs vs1 : List Nat) : FE := fun π => (fi π).bind fun xs => (pComp2 q ft fi1 q1 ft1 fe vs1 (wipeP π vs) xs []).map .list
theorem comp2_emb (hq : TQ t q) (hq1 : TQ t1 q1) {n : Nat} {Q : List PyData → Nat → Prop} {σ0 : PSt} : ∀ (xs acc : List PyData) (r : List PyData), pComp2 q ft fi1 q1 ft1 fe vs1 (pd σ0) xs acc = some r → Q r n → uComp2 t (embT ft) (embI fi1) t1 (embT ft1) (emb fe) vs1 σ0 xs acc n Q
  | [], acc, r, e, k => by cases e; exact k
  | x :: xs, acc, r, e, k => by
    obtain ⟨π1, e1, e2⟩ := Option.bind_eq_some_iff.mp e
    obtain ⟨b, e3, e4⟩ := Option.bind_eq_some_iff.mp e2
    obtain ⟨σ1, h1, h2, _⟩ := hq x σ0 π1 e1
    subst h2
    refine ⟨σ1, h1, b, e3, ?_⟩
    by_cases hb : b = true
    · rw [if_pos hb] at e4 ⊢
      obtain ⟨ys, e5, e6⟩ := Option.bind_eq_some_iff.mp e4
      obtain ⟨acc', e7, e8⟩ := Option.bind_eq_some_iff.mp e6
      exact ⟨ys, e5, comp_emb (Q := fun acc' n3 => uComp2 t (embT ft) (embI fi1) t1 (embT ft1) (emb fe) vs1 σ0 xs acc' n3 Q) hq1 ys acc acc' (by rw [pd_wipe]; exact e7) (comp2_emb hq hq1 xs acc' r e8 k)⟩
    · rw [if_neg hb] at e4 ⊢
      exact comp2_emb hq hq1 xs acc r e4 k
theorem sp_lc2 (hv : ∀ j ∈ mu, j ∉ vs) (hv1 : ∀ j ∈ mu, j ∉ vs1) (hi : SimPJ L mu ws fi) (hg : SimG L mu vs g t) (hq : TQ t q) (ht : SimPT L mu tt ft) (hi1 : SimPI L mu ws1 fi1) (hg1 : SimG L mu vs1 g1 t1) (hq1 : TQ t1 q1) (ht1 : SimPT L mu tt1 ft1) (he : SimP L mu true te fe) : SimP L mu st (wLc2 finF ws g tt ws1 g1 tt1 te vs vs1) (pLc2 fi q ft fi1 q1 ft1 fe vs vs1) := (se_lc2 hv hv1 hi hg ht hi1 hg1 ht1 he).mono fun σ n Q ⟨z, e, k⟩ => by
  obtain ⟨xs, e1, e2⟩ := Option.bind_eq_some_iff.mp e
  obtain ⟨r, e3, rfl⟩ := Option.map_eq_some_iff.mp e2
  exact ⟨xs, e1, comp2_emb (Q := fun acc n2 => Q (.d (.list acc)) n2) hq hq1 xs [] r (by rw [pd_wipe]; exact e3) k⟩
end
end
structure UEnds where
  nx : PSt → Nat → Prop
  rt : PV → Nat → Prop
  rl : List PyData → Nat → Prop
  bk : PSt → Nat → Prop := fun _ _ => False
  ct : PSt → Nat → Prop := fun _ _ => False
abbrev US := UEnds → PSt → Nat → Prop
structure Ret (hp : Bool) (a : Addr) (M0 : Mem) (M : Mem) (n : Nat) : Prop where
  pen : hp = true → ∃ mo, M a = some mo ∧ PenMO n mo
  sub : ∀ b m, M0 b = some m → (hp = true → b ≠ a) → M b = some m
structure Conn (L : Nat) (hp : Bool) (a : Addr) (mu : List Nat) (M0 : Mem) (E : DEnds) (V : UEnds) : Prop where
  nx : ∀ δ M σ n, Own L hp a mu M0 δ M σ n → V.nx σ n → E.nx δ M
  rt : ∀ M v n, Ret hp a M0 M n → (v = .pen → hp = true) → V.rt v n → E.rt (eV a v) M
  rl : ∀ M b xs n, Ret hp a M0 M n → (hp = true → b ≠ a) → M0 b = none → M b = some (.lst (xs.map .d)) → V.rl xs n → E.rt (.r b) M
  bk : ∀ δ M σ n, Own L hp a mu M0 δ M σ n → V.bk σ n → E.bk δ M
  ct : ∀ δ M σ n, Own L hp a mu M0 δ M σ n → V.ct σ n → E.ct δ M
def SimS (L : Nat) (mu : List Nat) (w : WS) (U : US) : Prop := ∀ (hp : Bool) (a : Addr) (M0 : Mem) (δ : SD) (M : Mem) (σ : PSt) (n : Nat) (E : DEnds) (V : UEnds), Own L hp a mu M0 δ M σ n → U V σ n → Conn L hp a mu M0 E V → w E δ M
inductive PO where
  | nx (π : PD)
  | bk (π : PD)
  | ct (π : PD)
  | rt (x : PyData)
  | rl (xs : List PyData)
abbrev FS := PD → Option PO
def onPO (V : UEnds) (n : Nat) : PO → Prop
  | .nx π => V.nx (up π) n
  | .bk π => V.bk (up π) n
  | .ct π => V.ct (up π) n
  | .rt x => V.rt (.d x) n
  | .rl xs => V.rl xs n
def embS (F : FS) : US := fun V σ n => ∃ π o, σ = up π ∧ F π = some o ∧ onPO V n o
abbrev SimPS (L : Nat) (mu : List Nat) (w : WS) (F : FS) : Prop := SimS L mu w (embS F)
section
variable {L : Nat} {mu : List Nat} {w w1 w2 : WS} {U U' U1 U2 : US} {F F1 F2 : FS} {we : WE} {ue : UE} {fe : FE} {wt : WT} {ut : UT} {ft : FT}
theorem SimS.mono (h : SimS L mu w U) (k : ∀ V σ n, U' V σ n → U V σ n) : SimS L mu w U' := fun hp a M0 δ M σ n E V O q C => h hp a M0 δ M σ n E V O (k _ _ _ q) C
def uNext : US := fun V σ n => V.nx σ n
def pNext : FS := fun π => some (.nx π)
theorem ss_next : SimS L mu wNext uNext := fun hp a M0 δ M σ n E V O q C => C.nx δ M σ n O q
theorem sps_next : SimPS L mu wNext pNext := ss_next.mono fun V σ n ⟨π, o, h, e, k⟩ => by cases e; rw [h]; exact k
def uBrk : US := fun V σ n => V.bk σ n
def pBrk : FS := fun π => some (.bk π)
theorem ss_brk : SimS L mu wBreak uBrk := fun hp a M0 δ M σ n E V O q C => C.bk δ M σ n O q
theorem sps_brk : SimPS L mu wBreak pBrk := ss_brk.mono fun V σ n ⟨π, o, h, e, k⟩ => by cases e; rw [h]; exact k
def uCont : US := fun V σ n => V.ct σ n
def pCont : FS := fun π => some (.ct π)
theorem ss_cont : SimS L mu wCont uCont := fun hp a M0 δ M σ n E V O q C => C.ct δ M σ n O q
theorem sps_cont : SimPS L mu wCont pCont := ss_cont.mono fun V σ n ⟨π, o, h, e, k⟩ => by cases e; rw [h]; exact k
def uSeq (U1 U2 : US) : US := fun V σ n => U1 { V with nx := U2 V } σ n
def thenP (F2 : FS) : PO → Option PO
  | .nx π1 => F2 π1
  | o => some o
def pSeq (F1 F2 : FS) : FS := fun π => (F1 π).bind (thenP F2)
theorem ss_seq (h1 : SimS L mu w1 U1) (h2 : SimS L mu w2 U2) : SimS L mu (wSeq w1 w2) (uSeq U1 U2) := fun hp a M0 δ M σ n E V O q C =>
  h1 hp a M0 δ M σ n _ _ O q ⟨fun δ M σ n O1 q1 => h2 hp a M0 δ M σ n E V O1 q1 C, C.rt, C.rl, C.bk, C.ct⟩
theorem sps_seq (h1 : SimPS L mu w1 F1) (h2 : SimPS L mu w2 F2) : SimPS L mu (wSeq w1 w2) (pSeq F1 F2) := (ss_seq h1 h2).mono fun V σ n ⟨π, o, h, e, k⟩ => by
  obtain ⟨o1, e1, e2⟩ := Option.bind_eq_some_iff.mp e
  refine ⟨π, o1, h, e1, ?_⟩
  cases o1 with
  | nx π1 => exact ⟨π1, o, rfl, e2, k⟩
  | bk π1 => cases e2; exact k
  | ct π1 => cases e2; exact k
  | rt x => cases e2; exact k
  | rl x => cases e2; exact k
def uRet (ue : UE) : US := fun V σ n => ue σ n V.rt
def pRet (fe : FE) : FS := fun π => (fe π).map .rt
theorem Own.ret {hp : Bool} {a : Addr} {M0 M : Mem} {δ : SD} {σ : PSt} {n : Nat} (O : Own L hp a mu M0 δ M σ n) : Ret hp a M0 M n := ⟨O.pen, O.sub⟩
theorem ss_ret (h : SimE L mu true we ue) : SimS L mu (wRet we) (uRet ue) := fun hp a M0 δ M σ n E V O q C =>
  h hp a M0 δ M σ n _ _ O q fun v n1 M1 dv O1 r1 q1 => by
    rw [r1.strict.1]
    exact C.rt M1 v n1 O1.ret r1.strict.2 q1
theorem sps_ret (h : SimP L mu true we fe) : SimPS L mu (wRet we) (pRet fe) := (ss_ret h).mono fun V σ n ⟨π, o, h, e, k⟩ => by
  obtain ⟨x, e1, rfl⟩ := Option.map_eq_some_iff.mp e
  exact ⟨x, by rw [h, pd_up]; exact e1, k⟩
def uRetN : US := fun V _ n => V.rt (.d .none) n
def pRetN : FS := fun _ => some (.rt .none)
theorem ss_retN : SimS L mu wRetN uRetN := fun hp a M0 δ M σ n E V O q C => C.rt M (.d .none) n O.ret (fun h => by cases h) q
theorem sps_retN : SimPS L mu wRetN pRetN := ss_retN.mono fun V σ n ⟨π, o, h, e, k⟩ => by cases e; exact k
def uDrop (ue : UE) : US := fun V σ n => ue σ n fun _ n1 => V.nx σ n1
theorem ss_drop {st : Bool} (h : SimE L mu st we ue) : SimS L mu (wDrop we) (uDrop ue) := fun hp a M0 δ M σ n E V O q C =>
  h hp a M0 δ M σ n _ _ O q fun v n1 M1 dv O1 r1 q1 => C.nx δ M1 σ n1 O1 q1
def uIfS (ut : UT) (U1 U2 : US) : US := fun V σ n => ut σ n fun b n1 => if b = true then U1 V σ n1 else U2 V σ n1
def pIfS (ft : FT) (F1 F2 : FS) : FS := fun π => (ft π).bind fun b => if b = true then F1 π else F2 π
theorem ss_if (h : SimT L mu wt ut) (h1 : SimS L mu w1 U1) (h2 : SimS L mu w2 U2) : SimS L mu (wIfS wt w1 w2) (uIfS ut U1 U2) := fun hp a M0 δ M σ n E V O q C => by
  refine h hp a M0 δ M σ n _ _ O q fun b n1 M1 O1 q1 => ?_
  by_cases hb : b = true
  · rw [if_pos hb] at q1 ⊢
    exact h1 hp a M0 δ M1 σ n1 E V O1 q1 C
  · rw [if_neg hb] at q1 ⊢
    exact h2 hp a M0 δ M1 σ n1 E V O1 q1 C
theorem sps_if (h : SimPT L mu wt ft) (h1 : SimPS L mu w1 F1) (h2 : SimPS L mu w2 F2) : SimPS L mu (wIfS wt w1 w2) (pIfS ft F1 F2) := (ss_if h h1 h2).mono fun V σ n ⟨π, o, h, e, k⟩ => by
  obtain ⟨b, e1, e2⟩ := Option.bind_eq_some_iff.mp e
  refine ⟨b, by rw [h, pd_up]; exact e1, ?_⟩
  cases b
  · exact ⟨π, o, h, e2, k⟩
  · exact ⟨π, o, h, e2, k⟩
def uSet (i : Nat) (ue : UE) : US := fun V σ n => ue σ n fun v n1 => V.nx (put σ i v) n1
def pSet (i : Nat) (fe : FE) : FS := fun π => (fe π).map fun x => .nx (put π i x)
theorem ss_set (i : Nat) (hi : i < L) (hm : i ∉ mu) (h : SimE L mu true we ue) : SimS L mu (wAsg we (gNameD i)) (uSet i ue) := fun hp a M0 δ M σ n E V O q C => by
  refine h hp a M0 δ M σ n _ _ O q fun v n1 M1 dv O1 r1 q1 => ?_
  rw [r1.strict.1]
  exact C.nx _ M1 _ n1 (O1.put hi hm r1.strict.2) q1
theorem sps_set (i : Nat) (hi : i < L) (hm : i ∉ mu) (h : SimP L mu true we fe) : SimPS L mu (wAsg we (gNameD i)) (pSet i fe) := (ss_set i hi hm h).mono fun V σ n ⟨π, o, h, e, k⟩ => by
  obtain ⟨x, e1, rfl⟩ := Option.map_eq_some_iff.mp e
  refine ⟨x, by rw [h, pd_up]; exact e1, ?_⟩
  show V.nx (put σ i (.d x)) n
  rw [h, up_put]
  exact k
def uAsg (t : TGt) (ue : UE) : US := fun V σ n => ue σ n fun v n1 => onD v fun x => ∃ σ1, t x σ = some σ1 ∧ V.nx σ1 n1
def pAsg (q : TGp) (fe : FE) : FS := fun π => (fe π).bind fun x => (q x π).map .nx
theorem ss_asg {vs : List Nat} {g : WG} {t : TGt} (hg : SimG L mu vs g t) (h : SimE L mu true we ue) : SimS L mu (wAsg we g) (uAsg t ue) := fun hp a M0 δ M σ n E V O q C => by
  refine h hp a M0 δ M σ n _ _ O q fun v n1 M1 dv O1 r1 q1 => ?_
  obtain ⟨x, rfl, σ1, e, q2⟩ := onD_inv q1
  rw [r1.strict.1]
  exact hg hp a M0 δ M1 σ σ1 n1 x _ O1 e fun δ1 O2 _ => C.nx δ1 M1 σ1 n1 O2 q2
theorem sps_asg {vs : List Nat} {g : WG} {t : TGt} {q : TGp} (hg : SimG L mu vs g t) (hq : TQ t q) (h : SimP L mu true we fe) : SimPS L mu (wAsg we g) (pAsg q fe) := (ss_asg hg h).mono fun V σ n ⟨π, o, h, e, k⟩ => by
  obtain ⟨x, e1, e2⟩ := Option.bind_eq_some_iff.mp e
  obtain ⟨π1, e3, rfl⟩ := Option.map_eq_some_iff.mp e2
  obtain ⟨σ1, h1, h2, h3⟩ := hq x σ π1 (by rw [h, pd_up]; exact e3)
  refine ⟨x, by rw [h, pd_up]; exact e1, ?_⟩
  refine ⟨σ1, h1, ?_⟩
  rw [h3 π h]
  exact k
def parU (i j : Nat) (V : UEnds) (σ : PSt) (n1 : Nat) : List PV → Prop
  | [x, y] => V.nx (put (put σ i x) j y) n1
  | _ => False
def uPar (i j : Nat) (ua : UA) : US := fun V σ n => ua σ n fun vs n1 => parU i j V σ n1 vs
def parP (i j : Nat) (π : PD) : List PyData → Option PO
  | [x, y] => some (.nx (put (put π i x) j y))
  | _ => none
def pPar (i j : Nat) (fa : FA) : FS := fun π => (fa π).bind (parP i j π)
theorem ss_par {wa : WA} {ua : UA} (i j : Nat) (hi : i < L) (hj : j < L) (hm : i ∉ mu) (hm' : j ∉ mu) (h : SimA L mu true wa ua) : SimS L mu (wPar i j wa) (uPar i j ua) := fun hp a M0 δ M σ n E V O q C => by
  refine h hp a M0 δ M σ n _ _ O q fun vs n1 M1 ds O1 r1 q1 => ?_
  match vs, r1, q1 with
  | [x, y], .cons r1 (.cons r2 .nil), q1 =>
    rw [r1.strict.1, r2.strict.1]
    exact C.nx _ M1 _ n1 ((O1.put hi hm r1.strict.2).put hj hm' r2.strict.2) q1
theorem sps_par {wa : WA} {fa : FA} (i j : Nat) (hi : i < L) (hj : j < L) (hm : i ∉ mu) (hm' : j ∉ mu) (h : SimPA L mu true wa fa) : SimPS L mu (wPar i j wa) (pPar i j fa) := (ss_par i j hi hj hm hm' h).mono fun V σ n ⟨π, o, h, e, k⟩ => by
  obtain ⟨vs, e1, e2⟩ := Option.bind_eq_some_iff.mp e
  refine ⟨vs, by rw [h, pd_up]; exact e1, ?_⟩
  match vs, e2 with
  | [x, y], e2 =>
    cases e2
    show V.nx (put (put σ i (.d x)) j (.d y)) n
    rw [h, up_put, up_put]
    exact k
def parU3 (i j l : Nat) (V : UEnds) (σ : PSt) (n1 : Nat) : List PV → Prop
  | [x, y, z] => V.nx (put (put (put σ i x) j y) l z) n1
  | _ => False
def uPar3 (i j l : Nat) (ua : UA) : US := fun V σ n => ua σ n fun vs n1 => parU3 i j l V σ n1 vs
def parP3 (i j l : Nat) (π : PD) : List PyData → Option PO
  | [x, y, z] => some (.nx (put (put (put π i x) j y) l z))
  | _ => none
def pPar3 (i j l : Nat) (fa : FA) : FS := fun π => (fa π).bind (parP3 i j l π)
theorem ss_par3 {wa : WA} {ua : UA} (i j l : Nat) (hi : i < L) (hj : j < L) (hl : l < L) (hm : i ∉ mu) (hm' : j ∉ mu) (hm2 : l ∉ mu) (h : SimA L mu true wa ua) : SimS L mu (wPar3 i j l wa) (uPar3 i j l ua) := fun hp a M0 δ M σ n E V O q C => by
  refine h hp a M0 δ M σ n _ _ O q fun vs n1 M1 ds O1 r1 q1 => ?_
  match vs, r1, q1 with
  | [x, y, z], .cons r1 (.cons r2 (.cons r3 .nil)), q1 =>
    rw [r1.strict.1, r2.strict.1, r3.strict.1]
    exact C.nx _ M1 _ n1 (((O1.put hi hm r1.strict.2).put hj hm' r2.strict.2).put hl hm2 r3.strict.2) q1
theorem sps_par3 {wa : WA} {fa : FA} (i j l : Nat) (hi : i < L) (hj : j < L) (hl : l < L) (hm : i ∉ mu) (hm' : j ∉ mu) (hm2 : l ∉ mu) (h : SimPA L mu true wa fa) : SimPS L mu (wPar3 i j l wa) (pPar3 i j l fa) := (ss_par3 i j l hi hj hl hm hm' hm2 h).mono fun V σ n ⟨π, o, h, e, k⟩ => by
  obtain ⟨vs, e1, e2⟩ := Option.bind_eq_some_iff.mp e
  refine ⟨vs, by rw [h, pd_up]; exact e1, ?_⟩
  match vs, e2 with
  | [x, y, z], e2 =>
    cases e2
    show V.nx (put (put (put σ i (.d x)) j (.d y)) l (.d z)) n
    rw [h, up_put, up_put, up_put]
    exact k
end
end DL
namespace DL
open PySem PySem.Spec L2 RZ
open PyProof.Rows hiding St

def SimL (L : Nat) (mu : List Nat) (w : WE) (u : UI) : Prop := ∀ (hp : Bool) (a : Addr) (M0 : Mem) (δ : SD) (M : Mem) (σ : PSt) (n : Nat) (Q : DQ) (Z : List PyData → Nat → Prop), Own L hp a mu M0 δ M σ n → u σ n Z →
  (∀ xs n' M', Own L hp a mu M0 δ M' σ n' → Z xs n' → ∀ p, M' p = none → Q (.r p) (mupd M' p (.lst (xs.map .d)))) → w δ M Q
abbrev SimPL (L : Nat) (mu : List Nat) (w : WE) (f : FA) : Prop := SimL L mu w (embI f)
section
variable {L : Nat} {mu : List Nat} {w we wa : WE} {ui : UI} {fi : FA} {wr : WA} {ur : UA} {fr : FA} {ua ue : UE} {fa fe : FE} {wt : WT} {ut : UT} {ft : FT} {wb : WS} {U : US} {F : FS}
theorem SimL.mono {u u' : UI} (h : SimL L mu w u) (k : ∀ σ n Q, u' σ n Q → u σ n Q) : SimL L mu w u' := fun hp a M0 δ M σ n Q Z O q e => h hp a M0 δ M σ n Q Z O (k _ _ _ q) e
def uLst (ur : UA) : UI := fun σ n Q => ur σ n fun vs n1 => onDs vs fun xs => xs.length ≤ sizeLine ∧ Q xs n1
def pLst (fr : FA) : FA := fun π => (fr π).bind fun xs => if xs.length ≤ sizeLine then some xs else none
theorem sl_lst (hr : SimA L mu true wr ur) : SimL L mu (wLstM wr) (uLst ur) := fun hp a M0 δ M σ n Q Z O q E => by
  refine hr hp a M0 δ M σ n _ _ O q fun vs n1 M1 ds O1 r1 q1 => ?_
  obtain ⟨xs, rfl, hl, q2⟩ := onDs_inv q1
  rw [r1.strict.1, map_eV]
  exact ⟨by simpa using hl, E xs n1 M1 O1 q2⟩
theorem spl_lst (hr : SimPA L mu true wr fr) : SimPL L mu (wLstM wr) (pLst fr) := (sl_lst hr).mono fun σ n Q ⟨z, e, q⟩ => by
  obtain ⟨xs, e1, e2⟩ := Option.bind_eq_some_iff.mp e
  split at e2
  · rename_i hl
    cases e2
    refine ⟨z, e1, ?_⟩
    show onDs (List.map PV.d z) _
    rw [onDs_map]
    exact ⟨hl, q⟩
  · cases e2
def CbL (rd : RCD) (h : List PyData → Option (List PyData)) : Prop := ∀ ds xs ys M Q, viewL M ds = some xs → h xs = some ys → (∀ p, M p = none → Q (.r p) (mupd M p (.lst (ys.map .d)))) → rd ds M Q
theorem sl_cb {rd : RCD} {h : List PyData → Option (List PyData)} (ho : CbL rd h) (hr : SimA L mu false wr ur) : SimL L mu (wCB rd wr) (uSrc h ur) := fun hp a M0 δ M σ n Q Z O q E => by
  refine hr hp a M0 δ M σ n _ _ O q fun vs n1 M1 ds O1 r1 q1 => ?_
  obtain ⟨xs, rfl, ys, hy, q2⟩ := onDs_inv q1
  exact ho ds xs ys M1 Q (r1.views O1) hy (E ys n1 M1 O1 q2)
theorem spl_cb {rd : RCD} {h : List PyData → Option (List PyData)} (ho : CbL rd h) (hr : SimPA L mu false wr fr) : SimPL L mu (wCB rd wr) (pSrc h fr) := (sl_cb ho hr).mono embI_src
theorem sl_call {sp : SpD} {h : List PyData → Option (List PyData)} (ho : CbL sp h) (hr : SimA L mu false wr ur) : SimL L mu (wCall sp wr) (uSrc h ur) := sl_cb (rd := sp) ho hr
theorem spl_call {sp : SpD} {h : List PyData → Option (List PyData)} (ho : CbL sp h) (hr : SimPA L mu false wr fr) : SimPL L mu (wCall sp wr) (pSrc h fr) := spl_cb (rd := sp) ho hr
def gListL : List PyData → Option (List PyData)
  | [.list xs] => some xs
  | [.tuple xs] => some xs
  | _ => none
theorem cbl_list : CbL listM gListL := fun ds xs ys M Q hv h q => by
  unfold gListL at h
  split at h
  · cases h
    match ds, hv with
    | [x], hv =>
      obtain ⟨y, e1, e2⟩ := Option.bind_eq_some_iff.mp hv
      cases e2
      cases x with
      | d y => cases e1; exact q
      | s ns => cases e1
      | r b =>
        obtain ⟨zs, e, e3⟩ := Option.map_eq_some_iff.mp e1
        cases e3
        show optD (lstMD M b) _
        rw [e]
        exact q
    | x :: x' :: r, hv =>
      obtain ⟨y, e1, e2⟩ := Option.bind_eq_some_iff.mp hv
      obtain ⟨l, e3, e4⟩ := Option.map_eq_some_iff.mp e2
      obtain ⟨z, e5, e6⟩ := Option.bind_eq_some_iff.mp e3
      obtain ⟨l', e7, e8⟩ := Option.map_eq_some_iff.mp e6
      subst e8
      cases e4
  · cases h
    match ds, hv with
    | [x], hv =>
      obtain ⟨y, e1, e2⟩ := Option.bind_eq_some_iff.mp hv
      cases e2
      cases x with
      | d y => cases e1; exact q
      | s ns => cases e1
      | r b =>
        obtain ⟨zs, e, e3⟩ := Option.map_eq_some_iff.mp e1
        cases e3
    | x :: x' :: r, hv =>
      obtain ⟨y, e1, e2⟩ := Option.bind_eq_some_iff.mp hv
      obtain ⟨l, e3, e4⟩ := Option.map_eq_some_iff.mp e2
      obtain ⟨z, e5, e6⟩ := Option.bind_eq_some_iff.mp e3
      obtain ⟨l', e7, e8⟩ := Option.map_eq_some_iff.mp e6
      subst e8
      cases e4
  · cases h
def uLcL (ui : UI) (t : TGt) (ut : UT) (ue : UE) (vs : List Nat) : UI := fun σ n Q => ui σ n fun xs n1 => uComp t ut ue (wipeP σ vs) xs [] n1 Q
def pLcL (fi : FA) (q : TGp) (ft : FT) (fe : FE) (vs : List Nat) : FA := fun π => (fi π).bind fun xs => pComp q ft fe (wipeP π vs) xs []
theorem sl_lc {ws : WI} {g : WG} {t : TGt} {vs : List Nat} (hv : ∀ j ∈ mu, j ∉ vs) (hi : SimJ L mu ws ui) (hg : SimG L mu vs g t) (ht : SimT L mu wt ut) (he : SimE L mu true we ue) : SimL L mu (wLc finM ws g wt we vs) (uLcL ui t ut ue vs) := fun hp a M0 δ M σ n Q Z O q E => by
  refine hi hp a M0 δ M σ n _ _ O q fun xs n1 M1 ok O1 hok q1 => fun D hD => ?_
  refine comp_sound hg ht he (O1.fresh hD).2 (O1.fresh hD).1 (fun acc M2 n2 h2 O2 => hok _ n2 (O1.back (O2.newD0 h2) (wipe_agree hv δ σ))) xs [] M1 n1 hD (O1.wipe vs) q1 fun acc n2 M2 hM2 O2 q2 => ?_
  exact E acc n2 M2 (O1.back O2 (wipe_agree hv δ σ)) q2 D hM2
theorem spl_lc {ws : WI} {g : WG} {t : TGt} {q : TGp} {vs : List Nat} (hv : ∀ j ∈ mu, j ∉ vs) (hi : SimPJ L mu ws fi) (hg : SimG L mu vs g t) (hq : TQ t q) (ht : SimPT L mu wt ft) (he : SimP L mu true we fe) : SimPL L mu (wLc finM ws g wt we vs) (pLcL fi q ft fe vs) := (sl_lc hv hi hg ht he).mono fun σ n Q ⟨z, e, k⟩ => by
  obtain ⟨xs, e1, e2⟩ := Option.bind_eq_some_iff.mp e
  exact ⟨xs, e1, comp_emb hq xs [] z (by rw [pd_wipe]; exact e2) k⟩
def uSetL (i : Nat) (ui : UI) : US := fun V σ n => ui σ n fun xs n1 => V.nx (put σ i (.d (.list xs))) n1
def pSetL (i : Nat) (fi : FA) : FS := fun π => (fi π).map fun xs => .nx (put π i (.list xs))
theorem ss_setL (i : Nat) (hi : i < L) (hm : i ∈ mu) (h : SimL L mu we ui) : SimS L mu (wAsg we (gNameD i)) (uSetL i ui) := fun hp a M0 δ M σ n E V O q C => by
  refine h hp a M0 δ M σ n _ _ O q fun xs n1 M1 O1 q1 p hp' => ?_
  exact C.nx _ _ _ n1 (O1.newL hi hm hp' xs) q1
theorem sps_setL (i : Nat) (hi : i < L) (hm : i ∈ mu) (h : SimPL L mu we fi) : SimPS L mu (wAsg we (gNameD i)) (pSetL i fi) := (ss_setL i hi hm h).mono fun V σ n ⟨π, o, h, e, k⟩ => by
  obtain ⟨xs, e1, rfl⟩ := Option.map_eq_some_iff.mp e
  refine ⟨xs, by rw [h, pd_up]; exact e1, ?_⟩
  show V.nx (put σ i (.d (.list xs))) n
  rw [h, up_put]
  exact k
def uParLD (i j : Nat) (ui : UI) (ue : UE) : US := fun V σ n => ui σ n fun xs n1 => ue σ n1 fun v n2 => V.nx (put (put σ i (.d (.list xs))) j v) n2
def pParLD (i j : Nat) (fi : FA) (fe : FE) : FS := fun π => (fi π).bind fun xs => (fe π).map fun x => .nx (put (put π i (.list xs)) j x)
theorem ss_parLD (i j : Nat) (hi : i < L) (hj : j < L) (hm : i ∈ mu) (hm' : j ∉ mu) {wl : WE} (hl : SimL L mu wl ui) (h : SimE L mu true we ue) : SimS L mu (wPar i j (wCons wl (wCons we wNil))) (uParLD i j ui ue) := fun hp a M0 δ M σ n E V O q C => by
  refine hl hp a M0 δ M σ n _ _ O q fun xs n1 M1 O1 q1 p hp' => ?_
  refine h hp a _ δ _ σ n1 _ _ (O1.newD (o := .lst (xs.map .d)) hp') q1 fun v n2 M2 dv O2 r2 q2 => ?_
  rw [r2.strict.1]
  obtain ⟨hD, O3⟩ := O2.unD (O1.fresh hp').2 (O1.fresh hp').1
  have := ((O3.newL hi hm mdel_same xs).put hj hm' r2.strict.2)
  rw [mupd_mdel, mupd_self hD] at this
  exact C.nx _ M2 _ n2 this q2
theorem sps_parLD (i j : Nat) (hi : i < L) (hj : j < L) (hm : i ∈ mu) (hm' : j ∉ mu) {wl : WE} (hl : SimPL L mu wl fi) (h : SimP L mu true we fe) : SimPS L mu (wPar i j (wCons wl (wCons we wNil))) (pParLD i j fi fe) := (ss_parLD i j hi hj hm hm' hl h).mono fun V σ n ⟨π, o, h, e, k⟩ => by
  obtain ⟨xs, e1, e2⟩ := Option.bind_eq_some_iff.mp e
  obtain ⟨x, e3, rfl⟩ := Option.map_eq_some_iff.mp e2
  refine ⟨xs, by rw [h, pd_up]; exact e1, x, by rw [h, pd_up]; exact e3, ?_⟩
  show V.nx (put (put σ i (.d (.list xs))) j (.d x)) n
  rw [h, up_put, up_put]
  exact k
def uParDL (i j : Nat) (ue : UE) (ui : UI) : US := fun V σ n => ue σ n fun v n1 => ui σ n1 fun xs n2 => V.nx (put (put σ i v) j (.d (.list xs))) n2
def pParDL (i j : Nat) (fe : FE) (fi : FA) : FS := fun π => (fe π).bind fun x => (fi π).map fun xs => .nx (put (put π i x) j (.list xs))
theorem ss_parDL (i j : Nat) (hi : i < L) (hj : j < L) (hm : i ∉ mu) (hm' : j ∈ mu) {wl : WE} (h : SimE L mu true we ue) (hl : SimL L mu wl ui) : SimS L mu (wPar i j (wCons we (wCons wl wNil))) (uParDL i j ue ui) := fun hp a M0 δ M σ n E V O q C => by
  refine h hp a M0 δ M σ n _ _ O q fun v n1 M1 dv O1 r1 q1 => ?_
  refine hl hp a M0 δ M1 σ n1 _ _ O1 q1 fun xs n2 M2 O2 q2 p hp' => ?_
  rw [r1.strict.1]
  exact C.nx _ _ _ n2 ((O2.put hi hm r1.strict.2).newL hj hm' hp' xs) q2
theorem sps_parDL (i j : Nat) (hi : i < L) (hj : j < L) (hm : i ∉ mu) (hm' : j ∈ mu) {wl : WE} (h : SimP L mu true we fe) (hl : SimPL L mu wl fi) : SimPS L mu (wPar i j (wCons we (wCons wl wNil))) (pParDL i j fe fi) := (ss_parDL i j hi hj hm hm' h hl).mono fun V σ n ⟨π, o, h, e, k⟩ => by
  obtain ⟨x, e1, e2⟩ := Option.bind_eq_some_iff.mp e
  obtain ⟨xs, e3, rfl⟩ := Option.map_eq_some_iff.mp e2
  refine ⟨x, by rw [h, pd_up]; exact e1, xs, by rw [h, pd_up]; exact e3, ?_⟩
  show V.nx (put (put σ i (.d x)) j (.d (.list xs))) n
  rw [h, up_put, up_put]
  exact k
def uParLL (i j : Nat) (ui uj : UI) : US := fun V σ n => ui σ n fun xs n1 => uj σ n1 fun ys n2 => V.nx (put (put σ i (.d (.list xs))) j (.d (.list ys))) n2
def pParLL (i j : Nat) (fi fj : FA) : FS := fun π => (fi π).bind fun xs => (fj π).map fun ys => .nx (put (put π i (.list xs)) j (.list ys))
theorem ss_parLL (i j : Nat) (hi : i < L) (hj : j < L) (hm : i ∈ mu) (hm' : j ∈ mu) {wl wl' : WE} {uj : UI} (h : SimL L mu wl ui) (hl : SimL L mu wl' uj) : SimS L mu (wPar i j (wCons wl (wCons wl' wNil))) (uParLL i j ui uj) := fun hp a M0 δ M σ n E V O q C => by
  refine h hp a M0 δ M σ n _ _ O q fun xs n1 M1 O1 q1 p hp' => ?_
  refine hl hp a _ δ _ σ n1 _ _ (O1.newD (o := .lst (xs.map .d)) hp') q1 fun ys n2 M2 O2 q2 p2 hp2 => ?_
  obtain ⟨hD, O3⟩ := O2.unD (O1.fresh hp').2 (O1.fresh hp').1
  have O4 := O3.newL hi hm mdel_same xs
  rw [mupd_mdel, mupd_self hD] at O4
  exact C.nx _ _ _ n2 (O4.newL hj hm' hp2 ys) q2
theorem sps_parLL (i j : Nat) (hi : i < L) (hj : j < L) (hm : i ∈ mu) (hm' : j ∈ mu) {wl wl' : WE} {fj : FA} (h : SimPL L mu wl fi) (hl : SimPL L mu wl' fj) : SimPS L mu (wPar i j (wCons wl (wCons wl' wNil))) (pParLL i j fi fj) := (ss_parLL i j hi hj hm hm' h hl).mono fun V σ n ⟨π, o, h, e, k⟩ => by
  obtain ⟨x, e1, e2⟩ := Option.bind_eq_some_iff.mp e
  obtain ⟨xs, e3, rfl⟩ := Option.map_eq_some_iff.mp e2
  refine ⟨x, by rw [h, pd_up]; exact e1, xs, by rw [h, pd_up]; exact e3, ?_⟩
  show V.nx (put (put σ i (.d (.list x))) j (.d (.list xs))) n
  rw [h, up_put, up_put]
  exact k
def uRetL (ui : UI) : US := fun V σ n => ui σ n V.rl
def pRetL (fi : FA) : FS := fun π => (fi π).map .rl
theorem ss_retL (h : SimL L mu we ui) : SimS L mu (wRet we) (uRetL ui) := fun hp a M0 δ M σ n E V O q C => by
  refine h hp a M0 δ M σ n _ _ O q fun xs n1 M1 O1 q1 p hp' => ?_
  have O2 := O1.newD (o := .lst (xs.map .d)) hp'
  exact C.rl _ p xs n1 ⟨O2.pen, fun b m e hb => O2.sub b m (by rw [mupd_ne (by rintro rfl; rw [(O1.fresh hp').2] at e; cases e)]; exact e) hb⟩ (O1.fresh hp').1 (O1.fresh hp').2 mupd_same q1
theorem sps_retL (h : SimPL L mu we fi) : SimPS L mu (wRet we) (pRetL fi) := (ss_retL h).mono fun V σ n ⟨π, o, h, e, k⟩ => by
  obtain ⟨xs, e1, rfl⟩ := Option.map_eq_some_iff.mp e
  exact ⟨xs, by rw [h, pd_up]; exact e1, k⟩
def uRetV (i : Nat) : US := fun V σ n => ∃ xs, σ i = some (.d (.list xs)) ∧ V.rl xs n
def asL : PyData → Option (List PyData)
  | .list xs => some xs
  | _ => none
theorem asL_inv {x : PyData} {xs : List PyData} (h : asL x = some xs) : x = .list xs := by cases x <;> cases h; rfl
def pRetV (i : Nat) : FS := fun π => (π i).bind fun x => (asL x).map .rl
theorem ss_retV (i : Nat) (hm : i ∈ mu) : SimS L mu (wRet (wV i)) (uRetV i) := fun hp a M0 δ M σ n E V O ⟨xs, e, q⟩ C => by
  obtain ⟨b, x, m, e0, e1, e2, e3, e4, e5⟩ := O.obj hm e
  cases e0
  cases e2
  unfold wRet wV
  rw [e1]
  exact C.rl M b xs n O.ret e4 e5 e3 q
theorem sps_retV (i : Nat) (hm : i ∈ mu) : SimPS L mu (wRet (wV i)) (pRetV i) := (ss_retV i hm).mono fun V σ n ⟨π, o, h, e, k⟩ => by
  obtain ⟨x, e1, e2⟩ := Option.bind_eq_some_iff.mp e
  obtain ⟨xs, e3, rfl⟩ := Option.map_eq_some_iff.mp e2
  cases asL_inv e3
  exact ⟨xs, by rw [h]; show (π i).map _ = _; rw [e1]; rfl, k⟩
def uApp (i : Nat) (ue : UE) : US := fun V σ n => ∃ xs, σ i = some (.d (.list xs)) ∧ ue σ n fun v n1 => onD v fun x => xs.length < sizeLine ∧ V.nx (put σ i (.d (.list (xs ++ [x])))) n1
def pApp (i : Nat) (fe : FE) : FS := fun π => (π i).bind fun y => (asL y).bind fun xs => (fe π).bind fun x => if xs.length < sizeLine then some (.nx (put π i (.list (xs ++ [x])))) else none
theorem ss_app (i : Nat) (hm : i ∈ mu) (h : SimE L mu true we ue) : SimS L mu (wDrop (wMtL appD (wV i) (wCons we wNil))) (uApp i ue) := fun hp a M0 δ M σ n E V O ⟨xs, e, q⟩ C => by
  obtain ⟨b, ys, e1, e2, e3⟩ := O.list hm e
  cases e1
  unfold wDrop wMtL wV
  rw [e2]
  simp only [e3]
  refine h hp a M0 δ M σ n _ _ O q fun v n1 M1 dv O1 r1 q1 => ?_
  obtain ⟨x, rfl, hl, q2⟩ := onD_inv q1
  rw [r1.strict.1]
  obtain ⟨b', zs, e5, e6, e7⟩ := O1.list hm e
  cases e5
  rw [e2] at e6
  cases e6
  show match M1 b with | some (.lst xs) => _ | _ => False
  rw [e7]
  refine ⟨by simpa using hl, ?_⟩
  have := C.nx δ _ _ n1 (O1.putL hm e e2 (xs ++ [x])) q2
  simpa [eV] using this
theorem sps_app (i : Nat) (hm : i ∈ mu) (h : SimP L mu true we fe) : SimPS L mu (wDrop (wMtL appD (wV i) (wCons we wNil))) (pApp i fe) := (ss_app i hm h).mono fun V σ n ⟨π, o, h, e, k⟩ => by
  obtain ⟨y, e1, e2⟩ := Option.bind_eq_some_iff.mp e
  obtain ⟨xs, e3, e4⟩ := Option.bind_eq_some_iff.mp e2
  obtain ⟨x, e5, e6⟩ := Option.bind_eq_some_iff.mp e4
  cases asL_inv e3
  split at e6
  · rename_i hl
    cases e6
    refine ⟨xs, by rw [h]; show (π i).map _ = _; rw [e1]; rfl, x, by rw [h, pd_up]; exact e5, hl, ?_⟩
    rw [h, up_put]
    exact k
  · cases e6
def uExt (i : Nat) (ue : UE) : US := fun V σ n => ∃ xs, σ i = some (.d (.list xs)) ∧ ue σ n fun v n1 => onD v fun x => ∃ ys, asL x = some ys ∧ xs.length + ys.length ≤ sizeLine ∧ V.nx (put σ i (.d (.list (xs ++ ys)))) n1
def pExt (i : Nat) (fe : FE) : FS := fun π => (π i).bind fun y => (asL y).bind fun xs => (fe π).bind fun x => (asL x).bind fun ys => if xs.length + ys.length ≤ sizeLine then some (.nx (put π i (.list (xs ++ ys)))) else none
theorem ss_ext (i : Nat) (hm : i ∈ mu) (h : SimE L mu true we ue) : SimS L mu (wDrop (wMtL extD (wV i) (wCons we wNil))) (uExt i ue) := fun hp a M0 δ M σ n E V O ⟨xs, e, q⟩ C => by
  obtain ⟨b, ys, e1, e2, e3⟩ := O.list hm e
  cases e1
  unfold wDrop wMtL wV
  rw [e2]
  simp only [e3]
  refine h hp a M0 δ M σ n _ _ O q fun v n1 M1 dv O1 r1 q1 => ?_
  obtain ⟨x, rfl, ys, hy, hl, q2⟩ := onD_inv q1
  cases asL_inv hy
  rw [r1.strict.1]
  obtain ⟨b', zs, e5, e6, e7⟩ := O1.list hm e
  cases e5
  rw [e2] at e6
  cases e6
  show match M1 b with | some (.lst xs) => _ | _ => False
  rw [e7]
  refine ⟨by simpa using hl, ?_⟩
  have := C.nx δ _ _ n1 (O1.putL hm e e2 (xs ++ ys)) q2
  simpa [eV] using this
theorem sps_ext (i : Nat) (hm : i ∈ mu) (h : SimP L mu true we fe) : SimPS L mu (wDrop (wMtL extD (wV i) (wCons we wNil))) (pExt i fe) := (ss_ext i hm h).mono fun V σ n ⟨π, o, h, e, k⟩ => by
  obtain ⟨y, e1, e2⟩ := Option.bind_eq_some_iff.mp e
  obtain ⟨xs, e3, e4⟩ := Option.bind_eq_some_iff.mp e2
  obtain ⟨x, e5, e6⟩ := Option.bind_eq_some_iff.mp e4
  obtain ⟨ys, e7, e8⟩ := Option.bind_eq_some_iff.mp e6
  cases asL_inv e3
  split at e8
  · rename_i hl
    cases e8
    refine ⟨xs, by rw [h]; show (π i).map _ = _; rw [e1]; rfl, x, by rw [h, pd_up]; exact e5, ys, e7, hl, ?_⟩
    rw [h, up_put]
    exact k
  · cases e8
def uSetIx (i : Nat) (uk ue : UE) : US := fun V σ n => ue σ n fun v n1 => ∃ xs, σ i = some (.d (.list xs)) ∧ uk σ n1 fun v' n2 => onD v fun y => onD v' fun x => ∃ k j, asI1 x = some k ∧ ixN xs.length k = some j ∧ V.nx (put σ i (.d (.list (xs.set j y)))) n2
def pSetIx (i : Nat) (fk fe : FE) : FS := fun π => (fe π).bind fun y => (π i).bind fun l => (asL l).bind fun xs => (fk π).bind fun x => (asI1 x).bind fun k => (ixN xs.length k).map fun j => .nx (put π i (.list (xs.set j y)))
theorem ss_setIx {wk : WE} {uk : UE} (i : Nat) (hm : i ∈ mu) (hk : SimE L mu true wk uk) (h : SimE L mu true we ue) : SimS L mu (wSetIx (wV i) wk we) (uSetIx i uk ue) := fun hp a M0 δ M σ n E V O q C => by
  unfold wSetIx
  refine h hp a M0 δ M σ n _ _ O q fun v n1 M1 dv O1 r1 ⟨xs, e, q1⟩ => ?_
  obtain ⟨b, ys, e1, e2, e3⟩ := O1.list hm e
  cases e1
  unfold wV
  rw [e2]
  refine hk hp a M0 δ M1 σ n1 _ _ O1 q1 fun v' n2 M2 dv' O2 r2 q2 => ?_
  obtain ⟨y, rfl, q3⟩ := onD_inv q2
  obtain ⟨x, rfl, k, j, hk', hj, q4⟩ := onD_inv q3
  rw [r1.strict.1, r2.strict.1]
  cases x <;> cases hk'
  obtain ⟨b', zs, e5, e6, e7⟩ := O2.list hm e
  cases e5
  rw [e2] at e6
  cases e6
  show match M2 b with | some (.lst xs) => _ | _ => False
  rw [e7]
  show optD _ _
  rw [List.length_map, hj]
  have := C.nx δ _ _ n2 (O2.putL hm e e2 (xs.set j y)) q4
  rw [List.map_set] at this
  exact this
theorem asI1_inv {x : PyData} {k : Int} (h : asI1 x = some k) : x = .int k := by cases x <;> cases h; rfl
theorem sps_setIx {wk : WE} {fk : FE} (i : Nat) (hm : i ∈ mu) (hk : SimP L mu true wk fk) (h : SimP L mu true we fe) : SimPS L mu (wSetIx (wV i) wk we) (pSetIx i fk fe) := (ss_setIx i hm hk h).mono fun V σ n ⟨π, o, h, e, k⟩ => by
  obtain ⟨y, e1, e2⟩ := Option.bind_eq_some_iff.mp e
  obtain ⟨l, e3, e4⟩ := Option.bind_eq_some_iff.mp e2
  obtain ⟨xs, e5, e6⟩ := Option.bind_eq_some_iff.mp e4
  obtain ⟨x, e7, e8⟩ := Option.bind_eq_some_iff.mp e6
  obtain ⟨kk, e9, e10⟩ := Option.bind_eq_some_iff.mp e8
  obtain ⟨j, e11, rfl⟩ := Option.map_eq_some_iff.mp e10
  cases asL_inv e5
  refine ⟨y, by rw [h, pd_up]; exact e1, xs, by rw [h]; show (π i).map _ = _; rw [e3]; rfl, x, by rw [h, pd_up]; exact e7, kk, j, e9, e11, ?_⟩
  rw [h, up_put]
  exact k
def uLoop (t : TGt) (U : US) (V : UEnds) : List PyData → PSt → Nat → Prop
  | [], σ, n => V.nx σ n
  | x :: xs, σ, n => ∃ σ1, t x σ = some σ1 ∧ U { V with nx := uLoop t U V xs, ct := uLoop t U V xs, bk := V.nx } σ1 n
def uFor (ui : UI) (t : TGt) (U : US) : US := fun V σ n => ui σ n fun xs n1 => uLoop t U V xs σ n1
theorem loop_sound {g : WG} {t : TGt} {vs : List Nat} (hg : SimG L mu vs g t) (hb : SimS L mu wb U) {hp : Bool} {a : Addr} {M0 : Mem} {E : DEnds} {V : UEnds} (C : Conn L hp a mu M0 E V) : ∀ (xs : List PyData) (δ : SD) (M : Mem) (σ : PSt) (n : Nat), Own L hp a mu M0 δ M σ n → uLoop t U V xs σ n → loopD (fun _ => True) g wb E (xs.map .d) δ M
  | [], δ, M, σ, n, O, q => ⟨trivial, C.nx δ M σ n O q⟩
  | x :: xs, δ, M, σ, n, O, ⟨σ1, e, q⟩ => by
    refine ⟨trivial, ?_⟩
    refine hg hp a M0 δ M σ σ1 n x _ O e fun δ1 O1 _ => ?_
    exact hb hp a M0 δ1 M σ1 n _ _ O1 q ⟨fun δ M σ n O q => loop_sound hg hb C xs δ M σ n O q, C.rt, C.rl, C.nx, fun δ M σ n O q => loop_sound hg hb C xs δ M σ n O q⟩
theorem ss_for {ws : WI} {g : WG} {t : TGt} {vs : List Nat} (hi : SimI L mu ws ui) (hg : SimG L mu vs g t) (hb : SimS L mu wb U) : SimS L mu (wFor ws g wb) (uFor ui t U) := fun hp a M0 δ M σ n E V O q C =>
  hi hp a M0 δ M σ n _ _ O q fun xs n1 M1 O1 q1 => loop_sound hg hb C xs δ M1 σ n1 O1 q1
def turnP (k : FS) : PO → Option PO
  | .nx π2 => k π2
  | .ct π2 => k π2
  | .bk π2 => some (.nx π2)
  | o => some o
def pLoop (q : TGp) (F : FS) : List PyData → PD → Option PO
  | [], π => some (.nx π)
  | x :: xs, π => (q x π).bind fun π1 => (F π1).bind (turnP fun π2 => pLoop q F xs π2)
def pFor (fi : FA) (q : TGp) (F : FS) : FS := fun π => (fi π).bind fun xs => pLoop q F xs π
theorem loop_emb {t : TGt} {q : TGp} (hq : TQ t q) {V : UEnds} {n : Nat} : ∀ (xs : List PyData) (π : PD) (o : PO), pLoop q F xs π = some o → onPO V n o → uLoop t (embS F) V xs (up π) n
  | [], π, o, e, k => by cases e; exact k
  | x :: xs, π, o, e, k => by
    obtain ⟨π1, e1, e2⟩ := Option.bind_eq_some_iff.mp e
    obtain ⟨o1, e3, e4⟩ := Option.bind_eq_some_iff.mp e2
    obtain ⟨σ1, h1, h2, h3⟩ := hq x (up π) π1 (by rw [pd_up]; exact e1)
    refine ⟨σ1, h1, π1, o1, h3 π rfl, e3, ?_⟩
    cases o1 with
    | nx π2 => exact loop_emb hq xs π2 o e4 k
    | ct π2 => exact loop_emb hq xs π2 o e4 k
    | bk π2 => cases e4; exact k
    | rt x => cases e4; exact k
    | rl x => cases e4; exact k
theorem sps_for {ws : WI} {g : WG} {t : TGt} {q : TGp} {vs : List Nat} (hi : SimPI L mu ws fi) (hg : SimG L mu vs g t) (hq : TQ t q) (hb : SimPS L mu wb F) : SimPS L mu (wFor ws g wb) (pFor fi q F) := (ss_for hi hg hb).mono fun V σ n ⟨π, o, h, e, k⟩ => by
  obtain ⟨xs, e1, e2⟩ := Option.bind_eq_some_iff.mp e
  refine ⟨xs, by rw [h, pd_up]; exact e1, ?_⟩
  rw [h]
  exact loop_emb hq xs π o e2 k
def uWhile (ut : UT) (U : US) : US := fun V σ n => ∃ W : Nat → PSt → Nat → Prop, (∃ m, W m σ n) ∧ ∀ m σ n, W m σ n → ut σ n fun b n1 => if b = true then U { V with nx := fun σ' n' => ∃ m', m' < m ∧ W m' σ' n', ct := fun σ' n' => ∃ m', m' < m ∧ W m' σ' n', bk := V.nx } σ n1 else V.nx σ n1
theorem ss_while (ht : SimT L mu wt ut) (hb : SimS L mu wb U) : SimS L mu (wWhile wt wb) (uWhile ut U) := fun hp a M0 δ M σ n E V O ⟨W, ⟨m0, h0⟩, hW⟩ C => by
  refine ⟨fun m δ M => ∃ σ n, Own L hp a mu M0 δ M σ n ∧ W m σ n, ⟨m0, σ, n, O, h0⟩, fun m δ M ⟨σ, n, O, hm⟩ => ?_⟩
  refine ht hp a M0 δ M σ n _ _ O (hW m σ n hm) fun b n1 M1 O1 q1 => ?_
  by_cases hb' : b = true
  · rw [if_pos hb'] at q1 ⊢
    exact hb hp a M0 δ M1 σ n1 _ _ O1 q1 ⟨fun δ M σ n O ⟨m', h, h'⟩ => ⟨m', h, σ, n, O, h'⟩, C.rt, C.rl, C.nx, fun δ M σ n O ⟨m', h, h'⟩ => ⟨m', h, σ, n, O, h'⟩⟩
  · rw [if_neg hb'] at q1 ⊢
    exact C.nx δ M1 σ n1 O1 q1
def pIter (ft : FT) (F : FS) : Nat → PD → Option PO
  | 0, _ => none
  | m + 1, π => (ft π).bind fun b => if b = true then (F π).bind (turnP fun π2 => pIter ft F m π2) else some (.nx π)
def pWhile (fuel : Nat) (ft : FT) (F : FS) : FS := pIter ft F fuel
theorem sps_while (fuel : Nat) (ht : SimPT L mu wt ft) (hb : SimPS L mu wb F) : SimPS L mu (wWhile wt wb) (pWhile fuel ft F) := (ss_while ht hb).mono fun V σ n ⟨π, o, h, e, k⟩ => by
  refine ⟨fun m σ' n' => ∃ π' o', σ' = up π' ∧ pIter ft F m π' = some o' ∧ onPO V n' o', ⟨fuel, π, o, h, e, k⟩, ?_⟩
  rintro m σ' n' ⟨π', o', rfl, e', k'⟩
  cases m with
  | zero => cases e'
  | succ m =>
    obtain ⟨b, e1, e2⟩ := Option.bind_eq_some_iff.mp e'
    refine ⟨b, by rw [pd_up]; exact e1, ?_⟩
    by_cases hb' : b = true
    · rw [if_pos hb'] at e2 ⊢
      obtain ⟨o1, e3, e4⟩ := Option.bind_eq_some_iff.mp e2
      refine ⟨π', o1, rfl, e3, ?_⟩
      cases o1 with
      | nx π2 => exact ⟨m, by omega, π2, o', rfl, e4, k'⟩
      | ct π2 => exact ⟨m, by omega, π2, o', rfl, e4, k'⟩
      | bk π2 => cases e4; exact k'
      | rt x => cases e4; exact k'
      | rl x => cases e4; exact k'
    · rw [if_neg hb'] at e2 ⊢
      cases e2
      exact k'
end
def startP {α : Type} (xs : List α) : Nat → Option α := fun i => xs[i]?
def outP : PO → Option PyData
  | .rt x => some x
  | .rl xs => some (.list xs)
  | .nx _ => some .none
  | _ => none
def outL : PO → Option (List PyData)
  | .rl xs => some xs
  | _ => none
def runP (k : Nat) (F : FS) (xs : List PyData) : Option PyData := if xs.length = k then (F (startP xs)).bind outP else none
def runL (k : Nat) (F : FS) (xs : List PyData) : Option (List PyData) := if xs.length = k then (F (startP xs)).bind outL else none
def runW (k : Nat) (U : US) : UF := fun vs n Z => vs.length = k ∧ U { nx := fun _ n' => Z (.d .none) n', rt := Z, rl := fun xs n' => Z (.d (.list xs)) n' } (startP vs) n
def spP (k : Nat) (g : List PyData → Option PyData) : SpD := fun ds M Q => ∃ xs z, ds = xs.map .d ∧ xs.length = k ∧ g xs = some z ∧ Q (.d z) M
def spL (k : Nat) (g : List PyData → Option (List PyData)) : SpD := fun ds M Q => ∃ xs zs, ds = xs.map .d ∧ xs.length = k ∧ g xs = some zs ∧ ∀ p, M p = none → Q (.r p) (mupd M p (.lst (zs.map .d)))
def spW (k : Nat) (u : UF) : SpD := fun ds M Q => ∃ vs a mo n Z, ds = vs.map (eV a) ∧ vs.length = k ∧ M a = some mo ∧ PenMO n mo ∧ u vs n Z ∧ ∀ v n' mo', Z v n' → PenMO n' mo' → Q (eV a v) (mupd M a mo')
theorem cbs_spP {k : Nat} {g : List PyData → Option PyData} (hg : ∀ xs z, g xs = some z → xs.length = k) : CbS (spP k g) g := fun xs z M Q h q => ⟨xs, z, rfl, hg xs z h, h, q⟩
theorem runP_len {k : Nat} {F : FS} : ∀ xs z, runP k F xs = some z → xs.length = k := fun xs z h => by
  unfold runP at h
  split at h
  · assumption
  · cases h
theorem runL_len {k : Nat} {F : FS} : ∀ xs z, runL k F xs = some z → xs.length = k := fun xs z h => by
  unfold runL at h
  split at h
  · assumption
  · cases h
theorem viewL_d {M : Mem} : ∀ xs : List PyData, viewL M (xs.map .d) = some xs
  | [] => rfl
  | x :: xs => by show (viewD M (.d x)).bind _ = _; show (viewL M (xs.map .d)).map _ = _; rw [viewL_d xs]; rfl
theorem callW_spW {k : Nat} {U : US} : CallW (spW k (runW k U)) (runW k U) := fun a vs M mo n Q Z hM hp hu hq => ⟨vs, a, mo, n, Z, rfl, hu.1, hM, hp, hu, hq⟩
def spG (k : Nat) (hp : Bool) (U : US) : SpD := fun ds M Q => ∃ vs a n, ds = vs.map (eV a) ∧ vs.length = k ∧ (hp = true → ∃ mo, M a = some mo ∧ PenMO n mo) ∧ (.pen ∈ vs → hp = true) ∧ ∃ V : UEnds, U V (startP vs) n ∧
  (∀ σ n', V.nx σ n' → V.rt (.d .none) n') ∧ (∀ σ n', ¬ V.bk σ n') ∧ (∀ σ n', ¬ V.ct σ n') ∧
  (∀ M' v n', Ret hp a M M' n' → (v = .pen → hp = true) → V.rt v n' → Q (eV a v) M') ∧ (∀ M' b xs n', Ret hp a M M' n' → (hp = true → b ≠ a) → M b = none → M' b = some (.lst (xs.map .d)) → V.rl xs n' → Q (.r b) M')
theorem own_start {L k : Nat} {hp : Bool} {a : Addr} {mu : List Nat} {M : Mem} {n : Nat} {N : List Str} {vs : List PV} (hN : N.length = L) (hk : vs.length ≤ L) (hmu : ∀ i < vs.length, i ∉ mu) (hpn : hp = true → ∃ mo, M a = some mo ∧ PenMO n mo) (hv : .pen ∈ vs → hp = true) : Own L hp a mu M (startD N (vs.map (eV a))) M (startP vs) n where
  len := by unfold startD; simp; omega
  pen := hpn
  sub := fun b m e _ => e
  at_ := fun i v e => by
    have hi : i < vs.length := by
      rcases Nat.lt_or_ge i vs.length with h | h
      · exact h
      · unfold startP at e; rw [List.getElem?_eq_none h] at e; cases e
    refine ⟨eV a v, ?_, .inl ⟨hmu i hi, rfl, fun h => hv (by subst h; exact List.mem_of_getElem? e)⟩⟩
    unfold startD
    rw [List.getElem?_append_left (by simpa using hi), List.getElem?_map, List.getElem?_map]
    unfold startP at e
    rw [e]
    rfl
  uniq := fun i j b _ hi s1 _ _ _ => by
    have : i < vs.length := by
      rcases Nat.lt_or_ge i vs.length with h | h
      · exact h
      · unfold startP at s1; rw [List.getElem?_eq_none h] at s1; cases s1
    exact absurd hi (hmu i this)
section
variable {P : Program} {w : World} {K : PySem.W.Frag} {mg : Str → Option Value} {base : Heap}
theorem fun_okG {x qual : Str} {st : Stmt} {f : Addr} {fd : FuncData} {N ps : List Str} {k L : Nat} {hp : Bool} {mu : List Nat} {U : US} (F : Fun K x qual st f fd) (S : FnScope N ps (defScope st)) (hL : N.length = L) (hps : ps.length ≤ L) (hmu : ∀ i < ps.length, i ∉ mu)
    (hbody : ∀ (cdv : Value) (A : Around) (outer : List Env) (s : Shared) (H : Hp) (E : XK), Room k (A.deeper (envOfC qual (defScope st) s.heap.objs.size f cdv)) → A.guards = some [] →
      ∃ wd, DSs (cxOf CX0 P w K mg base N qual (defScope st) f cdv A outer s H E).nox (defBody st) wd ∧ SimS L mu wd U) : DFn P w K mg base (k + 1) f fd ps (spG ps.length hp U) := by
  refine fun_okD F S (fun ds M Q ⟨vs, a, n, e, hl, _⟩ => by rw [e, List.length_map]; exact hl) fun cdv A outer s H E hr hgd ds M Q ⟨vs, a, n, e, hl, hpn, hv, V, hU, hnx, hbk, hct, hrt, hrl⟩ => ?_
  obtain ⟨wd, hd, hs⟩ := hbody cdv A outer s H E hr hgd
  refine ⟨wd, hd, ?_⟩
  subst e
  refine hs hp a M _ M (startP vs) n _ V (own_start (k := k) hL (by omega) (by rw [hl]; exact hmu) hpn hv) hU ⟨fun δ M' σ n' O q => ?_, hrt, hrl, fun δ M' σ n' O q => hbk σ n' q, fun δ M' σ n' O q => hct σ n' q⟩
  exact hrt M' (.d .none) n' O.ret (fun h => by cases h) (hnx σ n' q)
theorem ret_keep {hp : Bool} {a : Addr} {M M' : Mem} {n : Nat} (R : Ret hp a M M' n) (h : hp = false) : ∀ b, M' b = none → M b = none := fun b e => by
  cases q : M b with
  | none => rfl
  | some m => rw [R.sub b m q (fun hh => by rw [h] at hh; cases hh)] at e; cases e
theorem relM_back {H : Hp} {M M' : Mem} (R : RelM K H M') (h : ∀ b m, M b = some m → M' b = some m) : RelM K H M := fun b m e => by
  have hd : ∀ c, M' c = none → M c = none := fun c e => by
    cases q : M c with
    | none => rfl
    | some m => rw [h c m q] at e; cases e
  have q := R b m (h b m e)
  cases m with
  | lst xs => obtain ⟨vs, a1, a2⟩ := q; exact ⟨vs, a1, RepL.drop hd a2⟩
  | tup xs => obtain ⟨vs, a1, a2⟩ := q; exact ⟨vs, a1, RepL.drop hd a2⟩
theorem liftF_P {k : Nat} {F : FS} : ∀ vs H Q E, liftF K (spP k (runP k F)) vs H Q E → liftF K (spG k false (embS F)) vs H Q E := fun vs H Q E ⟨ds, M, Qd, r, R, ⟨xs, z, e, hl, hz, q⟩, En⟩ => by
  subst e
  unfold runP at hz
  rw [if_pos hl] at hz
  refine ⟨xs.map .d, M, fun dv M' => ∃ n', Ret false 0 M M' n' ∧ (dv = .d z ∨ ∃ b zs, dv = .r b ∧ M b = none ∧ M' b = some (.lst (zs.map .d)) ∧ z = .list zs), r, R, ⟨xs.map .d, 0, 0, (map_eV 0 xs).symm, by simpa using hl, (fun h => by cases h), (fun h => by obtain ⟨x, _, h⟩ := List.mem_map.mp h; cases h), ?_⟩, ?_⟩
  · refine ⟨{ nx := fun _ _ => z = .none, rt := fun v _ => v = .d z, rl := fun zs _ => z = .list zs }, ?_, fun _ _ h => by rw [h], fun _ _ h => h, fun _ _ h => h, ?_, ?_⟩
    · have e : startP (xs.map PV.d) = up (startP xs) := by
        funext i
        unfold startP up
        rw [List.getElem?_map]
      obtain ⟨o, hF, ho⟩ := Option.bind_eq_some_iff.mp hz
      cases o <;> cases ho <;> exact ⟨startP xs, _, e, hF, rfl⟩
    · intro M' v n' hR _ hv
      subst hv
      exact ⟨n', hR, .inl rfl⟩
    · intro M' b zs n' hR _ h0 h1 hv
      exact ⟨n', hR, .inr ⟨b, zs, rfl, h0, h1, hv⟩⟩
  · intro d M' v H' k' R' r' ⟨n', hR, hv⟩
    have hd := ret_keep hR rfl
    have kk : Keep H M H' M := fun a n o e => ⟨(k' a n o e).1, n⟩
    have R2 := relM_back R' fun b m e => hR.sub b m e (fun h => by cases h)
    rcases hv with rfl | ⟨b, zs, rfl, h0, h1, rfl⟩
    · exact En (.d z) M v H' kk R2 (RepP.drop hd _ _ r') q
    · have r' : v = .ref b := r'
      subst r'
      obtain ⟨us, hu, ru⟩ := R' b _ h1
      exact En (.d (.list zs)) M _ H' kk R2 (RepP.lst hu h0 (RepL.toA (RepL.drop hd ru))) q
theorem liftF_L {k : Nat} {F : FS} : ∀ vs H Q E, liftF K (spL k (runL k F)) vs H Q E → liftF K (spG k false (embS F)) vs H Q E := fun vs H Q E ⟨ds, M, Qd, r, R, ⟨xs, zs, e, hl, hz, q⟩, En⟩ => by
  subst e
  unfold runL at hz
  rw [if_pos hl] at hz
  refine ⟨xs.map .d, M, fun dv M' => ∃ n', Ret false 0 M M' n' ∧ ∃ b, dv = .r b ∧ M b = none ∧ M' b = some (.lst (zs.map .d)), r, R, ⟨xs.map .d, 0, 0, (map_eV 0 xs).symm, by simpa using hl, (fun h => by cases h), (fun h => by obtain ⟨x, _, h⟩ := List.mem_map.mp h; cases h), ?_⟩, ?_⟩
  · refine ⟨{ nx := fun _ _ => False, rt := fun v _ => False, rl := fun ys _ => ys = zs }, ?_, fun _ _ h => h, fun _ _ h => h, fun _ _ h => h, fun _ _ _ _ _ h => h.elim, ?_⟩
    · have e : startP (xs.map PV.d) = up (startP xs) := by
        funext i
        unfold startP up
        rw [List.getElem?_map]
      obtain ⟨o, hF, ho⟩ := Option.bind_eq_some_iff.mp hz
      cases o <;> cases ho <;> exact ⟨startP xs, _, e, hF, rfl⟩
    · intro M' b ys n' hR _ h0 h1 hv
      subst hv
      exact ⟨n', hR, b, rfl, h0, h1⟩
  · intro d M' v H' k' R' r' ⟨n', hR, b, e, h0, h1⟩
    subst e
    have hd := ret_keep hR rfl
    have r' : v = .ref b := r'
    subst r'
    obtain ⟨us, hu, ru⟩ := R' b _ h1
    have sub : ∀ c m, mupd M b (.lst (zs.map .d)) c = some m → M' c = some m := fun c m e => by
      by_cases hc : c = b
      · subst hc; rw [mupd_same] at e; cases e; exact h1
      · rw [mupd_ne hc] at e
        exact hR.sub c m e (fun h => by cases h)
    refine En (.r b) _ _ H' (fun c n o e => ?_) (relM_back R' sub) rfl (q b h0)
    obtain ⟨e1, e2⟩ := k' c n o e
    have hc : c ≠ b := by rintro rfl; rw [h1] at e2; cases e2
    exact ⟨e1, by rw [mupd_ne hc]; exact n⟩
theorem liftF_W {k : Nat} {U : US} : ∀ vs H Q E, liftF K (spW k (runW k U)) vs H Q E → liftF K (spG k true U) vs H Q E := fun vs H Q E ⟨ds, M, Qd, r, R, ⟨xs, a, mo, n, Z, e, hl, hM, hp, hu, q⟩, En⟩ => by
  subst e
  refine ⟨xs.map (eV a), M, fun dv M' => ∃ n', Ret true a M M' n' ∧ ((∃ v, dv = eV a v ∧ Z v n') ∨ ∃ b zs, dv = .r b ∧ b ≠ a ∧ M b = none ∧ M' b = some (.lst (zs.map .d)) ∧ Z (.d (.list zs)) n'), r, R, ⟨xs, a, n, rfl, hl, (fun _ => ⟨mo, hM, hp⟩), (fun _ => rfl), ?_⟩, ?_⟩
  · refine ⟨_, hu.2, fun _ _ h => h, fun _ _ h => h, fun _ _ h => h, ?_, ?_⟩
    · intro M' v n' hR _ hv
      exact ⟨n', hR, .inl ⟨v, rfl, hv⟩⟩
    · intro M' b zs n' hR hb h0 h1 hv
      exact ⟨n', hR, .inr ⟨b, zs, rfl, hb rfl, h0, h1, hv⟩⟩
  · intro d M' v H' k' R' r' ⟨n', hR, hv⟩
    obtain ⟨mo', hM', hp'⟩ := hR.pen rfl
    have sub : ∀ c m, mupd M a mo' c = some m → M' c = some m := fun c m e => by
      by_cases hc : c = a
      · subst hc; rw [mupd_same] at e; cases e; exact hM'
      · rw [mupd_ne hc] at e
        exact hR.sub c m e fun _ => hc
    have hd : ∀ c, M' c = none → mupd M a mo' c = none := fun c e => by
      cases q : mupd M a mo' c with
      | none => rfl
      | some m => rw [sub c m q] at e; cases e
    have kk : Keep H M H' (mupd M a mo') := fun c n o e => ⟨(k' c n o e).1, hd c (k' c n o e).2⟩
    have R2 := relM_back R' sub
    rcases hv with ⟨v', rfl, hz⟩ | ⟨b, zs, rfl, hb, h0, h1, hz⟩
    · refine En (eV a v') _ v H' kk R2 ?_ (q v' n' mo' hz hp')
      cases v' with
      | d x => exact RepP.drop hd _ _ r'
      | pen => exact r'
      | s ns => exact Rep.drop (d := .s ns) hd r'
    · have r' : v = .ref b := r'
      subst r'
      obtain ⟨us, hu, ru⟩ := R' b _ h1
      exact En (.d (.list zs)) _ _ H' kk R2 (RepP.lst hu (by rw [mupd_ne hb]; exact h0) (RepL.toA (RepL.drop hd ru))) (q _ n' mo' hz hp')
end
end DL
namespace DL
open PySem PySem.Spec L2 RZ
open PyProof.Rows hiding St

instance {i j : Int} : Decidable (CDiv i j) := by unfold CDiv; infer_instance
instance {i j : Int} : Decidable (CPow i j) := by unfold CPow; infer_instance
instance {i j : Int} : Decidable (CMul i j) := by unfold CMul; infer_instance
def gI0 (g : Int → Int → PyData) : PyData → PyData → Option PyData
  | .int i, .int j => some (g i j)
  | _, _ => none
def gI (C : Int → Int → Prop) [∀ i j, Decidable (C i j)] (g : Int → Int → PyData) : PyData → PyData → Option PyData
  | .int i, .int j => if C i j then some (g i j) else none
  | _, _ => none
theorem os_i0 (g : Int → Int → PyData) : OpS (iOp0 g) (gI0 g) := fun x y z M Q h q => by
  unfold gI0 at h
  split at h
  · cases h; exact q
  · cases h
theorem os_i (C : Int → Int → Prop) [∀ i j, Decidable (C i j)] (g : Int → Int → PyData) : OpS (iOp C g) (gI C g) := fun x y z M Q h q => by
  unfold gI at h
  split at h
  · split at h
    · rename_i hc
      cases h; exact ⟨hc, q⟩
    · cases h
  · cases h
abbrev gSub := gI0 fun i j => .int (i - j)
abbrev gLt := gI0 fun i j => .bool (decide (i < j))
abbrev gLe := gI0 fun i j => .bool (decide (i ≤ j))
abbrev gGt := gI0 fun i j => .bool (decide (j < i))
abbrev gGe := gI0 fun i j => .bool (decide (j ≤ i))
abbrev gMod := gI (fun _ j => 0 < j) fun i j => .int (i % j)
abbrev gFdiv := gI CDiv fun i j => .int (i / j)
abbrev gMul := gI CMul fun i j => .int (i * j)
abbrev gPow := gI CPow fun i j => .int (i ^ j.toNat)
theorem os_sub : OpS (iOp0 fun i j => .int (i - j)) gSub := os_i0 _
theorem os_lt : OpS (iOp0 fun i j => .bool (decide (i < j))) gLt := os_i0 _
theorem os_le : OpS (iOp0 fun i j => .bool (decide (i ≤ j))) gLe := os_i0 _
theorem os_gt : OpS (iOp0 fun i j => .bool (decide (j < i))) gGt := os_i0 _
theorem os_ge : OpS (iOp0 fun i j => .bool (decide (j ≤ i))) gGe := os_i0 _
theorem os_mod : OpS (iOp (fun _ j => 0 < j) fun i j => .int (i % j)) gMod := os_i _ _
theorem os_fdiv : OpS (iOp CDiv fun i j => .int (i / j)) gFdiv := os_i _ _
theorem os_mul : OpS mulD gMul := os_i _ _
theorem os_pow : OpS (iOp CPow fun i j => .int (i ^ j.toNat)) gPow := os_i _ _
theorem view_inv {M : Mem} {dx : DV} {x : PyData} (h : viewD M dx = some x) : dx = .d x ∨ ∃ b xs, dx = .r b ∧ lstMD M b = some xs ∧ x = .list xs := by
  cases dx with
  | d y => cases h; exact .inl rfl
  | s ns => cases h
  | r b =>
    obtain ⟨xs, e, rfl⟩ := Option.map_eq_some_iff.mp h
    exact .inr ⟨b, xs, rfl, e, rfl⟩
def gAdd : PyData → PyData → Option PyData
  | .int i, .int j => some (.int (i + j))
  | .str i, .str j => if i.length + j.length ≤ sizeLine then some (.str (i ++ j)) else none
  | .tuple xs, .tuple ys => if xs.length + ys.length ≤ sizeLine then some (.tuple (xs ++ ys)) else none
  | .list xs, .list ys => if xs.length + ys.length ≤ sizeLine then some (.list (xs ++ ys)) else none
  | _, _ => none
theorem ov_add : OpV addD gAdd := fun dx dy x y z M Q hx hy h q => by
  unfold gAdd at h
  split at h
  · cases h
    rcases view_inv hx with rfl | ⟨b, xs, rfl, e, e2⟩ <;> rcases view_inv hy with rfl | ⟨c, ys, rfl, e', e2'⟩ <;> try (first | cases e2 | cases e2')
    exact q
  · split at h
    · rename_i hl
      cases h
      rcases view_inv hx with rfl | ⟨b, xs, rfl, e, e2⟩ <;> rcases view_inv hy with rfl | ⟨c, ys, rfl, e', e2'⟩ <;> try (first | cases e2 | cases e2')
      exact ⟨hl, q⟩
    · cases h
  · split at h
    · rename_i hl
      cases h
      rcases view_inv hx with rfl | ⟨b, xs, rfl, e, e2⟩ <;> rcases view_inv hy with rfl | ⟨c, ys, rfl, e', e2'⟩ <;> try (first | cases e2 | cases e2')
      exact ⟨hl, q⟩
    · cases h
  · split at h
    · rename_i hl
      cases h
      rcases view_inv hx with rfl | ⟨b, xs, rfl, e, e2⟩ <;> rcases view_inv hy with rfl | ⟨c, ys, rfl, e', e2'⟩
      · exact ⟨hl, q⟩
      · cases e2'
        show optD _ _
        rw [e']
        exact ⟨hl, q⟩
      · cases e2
        show optD _ _
        rw [e]
        exact ⟨hl, q⟩
      · cases e2; cases e2'
        show optD _ _
        rw [e]
        show optD _ _
        rw [e']
        exact ⟨hl, q⟩
    · cases h
  · cases h
def gEq (a b : PyData) : Option PyData := if eqOk a b = true then some (.bool (PyData.eqv a b)) else none
def gNe (a b : PyData) : Option PyData := if eqOk a b = true then some (.bool (!PyData.eqv a b)) else none
theorem os_eq : OpS (eqD false) gEq := fun x y z M Q h q => by
  unfold gEq at h
  split at h
  · rename_i hl; cases h; exact ⟨hl, q⟩
  · cases h
theorem os_ne : OpS (eqD true) gNe := fun x y z M Q h q => by
  unfold gNe at h
  split at h
  · rename_i hl; cases h; exact ⟨hl, q⟩
  · cases h
def gIn (neg : Bool) : PyData → PyData → Option PyData
  | a, .tuple bs => if SeqAt.shaped a = true ∧ SeqAt.shaped (.tuple bs) = true then some (.bool (if neg then !bs.any fun y => PyData.eqv y a else bs.any fun y => PyData.eqv y a)) else none
  | a, .list bs => if SeqAt.shaped a = true ∧ SeqAt.shaped (.list bs) = true then some (.bool (if neg then !bs.any fun y => PyData.eqv y a else bs.any fun y => PyData.eqv y a)) else none
  | _, _ => none
theorem os_in (neg : Bool) : OpS (inD neg) (gIn neg) := fun x y z M Q h q => by
  unfold gIn at h
  split at h
  · split at h
    · rename_i hl; cases h; exact ⟨hl.1, hl.2, q⟩
    · cases h
  · split at h
    · rename_i hl; cases h; exact ⟨hl.1, hl.2, q⟩
    · cases h
  · cases h
def gIs (neg : Bool) : PyData → PyData → Option PyData
  | a, .none => some (.bool (if neg then !isNone a else isNone a))
  | _, _ => none
theorem os_is (neg : Bool) : OpS (isND neg) (gIs neg) := fun x y z M Q h q => by
  unfold gIs at h
  split at h
  · cases h; exact q
  · cases h
def gIx : PyData → PyData → Option PyData
  | .tuple xs, .int i => L2.atI xs i
  | .list xs, .int i => L2.atI xs i
  | .str z, .int i => if z.length ≤ sizeLine then (L2.atI z.cps.toList i).map fun c => .str ⟨#[c]⟩ else none
  | _, _ => none
theorem lstMD_m {M : Mem} {b : Addr} {xs : List PyData} (h : lstMD M b = some xs) : M b = some (.lst (xs.map .d)) := by
  unfold lstMD at h
  split at h
  · rename_i ys e
    rw [e, allD_eq h]
  · cases h
theorem ov_ix : OpV ixD gIx := fun dx dy x y z M Q hx hy h q => by
  unfold gIx at h
  split at h
  · rcases view_inv hx with rfl | ⟨b, xs, rfl, e, e2⟩ <;> rcases view_inv hy with rfl | ⟨c, ys, rfl, e', e2'⟩ <;> try (first | cases e2 | cases e2')
    show optD _ _
    rw [h]
    exact q
  · rcases view_inv hx with rfl | ⟨b, xs, rfl, e, e2⟩ <;> rcases view_inv hy with rfl | ⟨c, ys, rfl, e', e2'⟩ <;> try (first | cases e2')
    · show optD _ _
      rw [h]
      exact q
    · cases e2
      show optD (M b) _
      rw [lstMD_m e]
      show optD (L2.atI (List.map DV.d _) _) _
      rw [atI_map, h]
      exact q
  · rcases view_inv hx with rfl | ⟨b, xs, rfl, e, e2⟩ <;> rcases view_inv hy with rfl | ⟨c, ys, rfl, e', e2'⟩ <;> try (first | cases e2 | cases e2')
    split at h
    · rename_i hl
      obtain ⟨c, ec, rfl⟩ := Option.map_eq_some_iff.mp h
      refine ⟨hl, ?_⟩
      rw [ec]
      exact q
    · cases h
  · cases h
def gRepT : PyData → PyData → Option PyData
  | .tuple xs, .int k => if xs ≠ [] ∧ 0 ≤ k ∧ k ≤ 1000 ∧ xs.length ≤ 1000 then some (.tuple (List.replicate k.toNat xs).flatten) else none
  | _, _ => none
theorem os_repT : OpS repD gRepT := fun x y z M Q h q => by
  unfold gRepT at h
  split at h
  · split at h
    · rename_i hl; cases h; exact ⟨hl.1, hl.2.1, hl.2.2.1, hl.2.2.2, q⟩
    · cases h
  · cases h
def gRepL : PyData → PyData → Option PyData
  | .list xs, .int k => if 0 ≤ k ∧ k ≤ 1000 ∧ xs.length ≤ 1000 then some (.list (List.replicate k.toNat xs).flatten) else none
  | _, _ => none
theorem os_repL : OpS repLD gRepL := fun x y z M Q h q => by
  unfold gRepL at h
  split at h
  · split at h
    · rename_i hl; cases h; exact ⟨hl.1, hl.2.1, hl.2.2, q⟩
    · cases h
  · cases h
def gCmp (f : PyData → PyData → Bool) (a b : PyData) : Option PyData := if PySem.W.alike a b = true ∧ isNone a = false ∧ a.depth ≤ 60 then some (.bool (f a b)) else none
theorem os_cmp (f : PyData → PyData → Bool) : OpS (cmpD f) (gCmp f) := fun x y z M Q h q => by
  unfold gCmp at h
  split at h
  · rename_i hl
    cases h
    exact ⟨hl.1, (by rintro rfl; cases hl.2.1), hl.2.2, q⟩
  · cases h
def gB (left : Bool) (C : Int → Int → Prop) [∀ i j, Decidable (C i j)] (g : Int → Int → PyData) : PyData → PyData → Option PyData
  | .int i, .int j => if C i j then some (g i j) else none
  | .bool i, .int j => if left = true ∧ C (b2i i) j then some (g (b2i i) j) else none
  | .int i, .bool j => if left = false ∧ C i (b2i j) then some (g i (b2i j)) else none
  | _, _ => none
theorem os_b (left : Bool) (C : Int → Int → Prop) [∀ i j, Decidable (C i j)] (g : Int → Int → PyData) : OpS (bOp left C g) (gB left C g) := fun x y z M Q h q => by
  unfold gB at h
  split at h
  · split at h
    · rename_i hc; cases h; exact ⟨hc, q⟩
    · cases h
  · split at h
    · rename_i hc; cases h; exact ⟨hc.1, hc.2, q⟩
    · cases h
  · split at h
    · rename_i hc; cases h; exact ⟨hc.1, hc.2, q⟩
    · cases h
  · cases h
theorem viewL_one {M : Mem} {ds : List DV} {x : PyData} (h : viewL M ds = some [x]) : ∃ dx, ds = [dx] ∧ viewD M dx = some x := by
  match ds, h with
  | [dx], h =>
    obtain ⟨y, e1, e2⟩ := Option.bind_eq_some_iff.mp h
    cases e2
    exact ⟨dx, rfl, e1⟩
  | dx :: dy :: r, h =>
    obtain ⟨y, e1, e2⟩ := Option.bind_eq_some_iff.mp h
    obtain ⟨l, e3, e4⟩ := Option.map_eq_some_iff.mp e2
    obtain ⟨z, e5, e6⟩ := Option.bind_eq_some_iff.mp e3
    obtain ⟨l', e7, e8⟩ := Option.map_eq_some_iff.mp e6
    subst e8
    cases e4
def gLen : List PyData → Option PyData
  | [.str z] => if z.length ≤ sizeLine then some (.int z.length) else none
  | [.tuple xs] => some (.int xs.length)
  | [.list xs] => some (.int xs.length)
  | _ => none
theorem cv_len : CbV lenD gLen := fun ds xs z M Q hv h q => by
  unfold gLen at h
  split at h
  · obtain ⟨dx, rfl, hx⟩ := viewL_one hv
    rcases view_inv hx with rfl | ⟨b, xs, rfl, e, e2⟩ <;> try cases e2
    split at h
    · rename_i hl; cases h; exact ⟨hl, q⟩
    · cases h
  · obtain ⟨dx, rfl, hx⟩ := viewL_one hv
    rcases view_inv hx with rfl | ⟨b, xs, rfl, e, e2⟩ <;> try cases e2
    cases h
    exact q
  · obtain ⟨dx, rfl, hx⟩ := viewL_one hv
    rcases view_inv hx with rfl | ⟨b, xs, rfl, e, e2⟩
    · cases h
      exact q
    · cases e2
      cases h
      show optD (M b) _
      rw [lstMD_m e]
      show Q (.d (.int ((List.map DV.d _).length : Nat))) M
      rw [List.length_map]
      exact q
  · cases h
def gAllQ (f : List Bool → Bool) : List PyData → Option PyData
  | [.list xs] => (allB xs).map fun bs => .bool (f bs)
  | _ => none
theorem cs_allQ (f : List Bool → Bool) : CbS (allQ f) (gAllQ f) := fun xs z M Q h q => by
  unfold gAllQ at h
  split at h
  · obtain ⟨bs, e, rfl⟩ := Option.map_eq_some_iff.mp h
    show optD _ _
    rw [e]
    exact q
  · cases h
abbrev gAll := gAllQ fun bs => bs.all fun b => b
abbrev gAny := gAllQ fun bs => bs.any fun b => b
instance {d : PyData} : Decidable (Showy d) := by unfold Showy; infer_instance
def gRepr : List PyData → Option PyData
  | [x] => if Showy x then some (.str x.shown) else none
  | _ => none
theorem cs_repr : CbS reprD gRepr := fun xs z M Q h q => by
  unfold gRepr at h
  split at h
  · split at h
    · rename_i hl; cases h; exact ⟨hl, q⟩
    · cases h
  · cases h
section
open Classical
noncomputable def gSortA : List PyData → Option PyData
  | [.list xs] => if SortOk xs then some (.list (sortedL xs)) else none
  | _ => none
noncomputable def gSortS : List PyData → Option PyData
  | [.list xs] => if PySem.W.SemiOk xs then some (.list (sortedL xs)) else none
  | _ => none
noncomputable def gSortAL : List PyData → Option (List PyData)
  | [.list xs] => if SortOk xs then some (sortedL xs) else none
  | _ => none
noncomputable def gSortSL : List PyData → Option (List PyData)
  | [.list xs] => if PySem.W.SemiOk xs then some (sortedL xs) else none
  | _ => none
theorem cs_sortA : CbS sortD gSortA := fun xs z M Q h q => by
  unfold gSortA at h
  split at h
  · split at h
    · rename_i hl; cases h; exact ⟨hl, q⟩
    · cases h
  · cases h
theorem cs_sortS : CbS sortSD gSortS := fun xs z M Q h q => by
  unfold gSortS at h
  split at h
  · split at h
    · rename_i hl; cases h; exact ⟨hl, q⟩
    · cases h
  · cases h
end
def CbLS (rd : RCD) (h : List PyData → Option (List PyData)) : Prop := ∀ xs ys M Q, h xs = some ys → (∀ p, M p = none → Q (.r p) (mupd M p (.lst (ys.map .d)))) → rd (xs.map .d) M Q
theorem cls_sortA : CbLS sortM gSortAL := fun xs z M Q h q => by
  unfold gSortAL at h
  split at h
  · split at h
    · rename_i hl; cases h; exact ⟨hl, q⟩
    · cases h
  · cases h
theorem cls_sortS : CbLS sortSM gSortSL := fun xs z M Q h q => by
  unfold gSortSL at h
  split at h
  · split at h
    · rename_i hl; cases h; exact ⟨hl, q⟩
    · cases h
  · cases h
theorem cls_spL {k : Nat} {F : FS} : CbLS (spL k (runL k F)) (runL k F) := fun xs ys M Q h q => ⟨xs, ys, rfl, runL_len _ _ h, h, q⟩
theorem sl_cbS {L : Nat} {mu : List Nat} {wr : WA} {ur : UA} {rd : RCD} {h : List PyData → Option (List PyData)} (ho : CbLS rd h) (hr : SimA L mu true wr ur) : SimL L mu (wCB rd wr) (uSrc h ur) := fun hp a M0 δ M σ n Q Z O q E => by
  refine hr hp a M0 δ M σ n _ _ O q fun vs n1 M1 ds O1 r1 q1 => ?_
  obtain ⟨xs, rfl, ys, hy, q2⟩ := onDs_inv q1
  rw [r1.strict.1, map_eV]
  exact ho xs ys M1 Q hy (E ys n1 M1 O1 q2)
theorem spl_cbS {L : Nat} {mu : List Nat} {wr : WA} {fr : FA} {rd : RCD} {h : List PyData → Option (List PyData)} (ho : CbLS rd h) (hr : SimPA L mu true wr fr) : SimPL L mu (wCB rd wr) (pSrc h fr) := (sl_cbS ho hr).mono embI_src
theorem spl_callS {L : Nat} {mu : List Nat} {wr : WA} {fr : FA} {sp : SpD} {h : List PyData → Option (List PyData)} (ho : CbLS sp h) (hr : SimPA L mu true wr fr) : SimPL L mu (wCall sp wr) (pSrc h fr) := spl_cbS (rd := sp) ho hr
theorem sl_callS {L : Nat} {mu : List Nat} {wr : WA} {ur : UA} {sp : SpD} {h : List PyData → Option (List PyData)} (ho : CbLS sp h) (hr : SimA L mu true wr ur) : SimL L mu (wCall sp wr) (uSrc h ur) := sl_cbS (rd := sp) ho hr
def gTuple : List PyData → Option PyData
  | [.list xs] => some (.tuple xs)
  | [.tuple xs] => some (.tuple xs)
  | _ => none
theorem cv_tuple : CbV tupleD gTuple := fun ds xs z M Q hv h q => by
  unfold gTuple at h
  split at h
  · obtain ⟨dx, rfl, hx⟩ := viewL_one hv
    cases h
    rcases view_inv hx with rfl | ⟨b, xs, rfl, e, e2⟩
    · exact q
    · cases e2
      show optD _ _
      rw [e]
      exact q
  · obtain ⟨dx, rfl, hx⟩ := viewL_one hv
    cases h
    rcases view_inv hx with rfl | ⟨b, xs, rfl, e, e2⟩
    · exact q
    · cases e2
  · cases h
def gList : List PyData → Option PyData
  | [.list xs] => some (.list xs)
  | [.tuple xs] => some (.list xs)
  | _ => none
theorem cv_list : CbV listD gList := fun ds xs z M Q hv h q => by
  unfold gList at h
  split at h
  · obtain ⟨dx, rfl, hx⟩ := viewL_one hv
    cases h
    rcases view_inv hx with rfl | ⟨b, xs, rfl, e, e2⟩
    · exact q
    · cases e2
      show optD _ _
      rw [e]
      exact q
  · obtain ⟨dx, rfl, hx⟩ := viewL_one hv
    cases h
    rcases view_inv hx with rfl | ⟨b, xs, rfl, e, e2⟩
    · exact q
    · cases e2
  · cases h
def gInt : List PyData → Option PyData
  | [.int i] => some (.int i)
  | [.bool b] => some (.int (if b then 1 else 0))
  | _ => none
theorem cs_int : CbS intBD gInt := fun xs z M Q h q => by
  unfold gInt at h
  split at h
  · cases h; exact q
  · cases h; exact q
  · cases h
end DL
namespace DL
open PySem PySem.Spec L2 RZ
open PyProof.Rows hiding St

def st0 (ns : List Int) : PSt := put (put (fun _ => none) 0 (.s ns)) 1 .pen
def lawV : UEnds := { nx := fun _ _ => False, rt := fun v _ => v = .d (.bool true), rl := fun _ _ => False }
theorem law_start {L : Nat} {mu : List Nat} {w : WS} {U : US} {sp : SpD} {N : List Str} {ns : List Int} {M : Mem} {Q : DQ} (hs : SimS L mu w U) (hN : N.length = L) (hL : 2 ≤ L) (h0 : 0 ∉ mu) (h1 : 1 ∉ mu) (hl : ns.length ≤ 63)
    (hsp : ∀ M Q, (∀ p mo, M p = none → PenMO 0 mo → Q (.r p) (mupd M p mo)) → sp [.s ns] M Q) (hQ : ∀ M', Q (.d (.bool true)) M') (hU : U lawV (st0 ns) 0) : wSeq (wAsg (wCall sp (wCons (wV 0) wNil)) (gNameD 1)) w { nx := fun _ M' => Q (.d .none) M', rt := Q } (startD N [.s ns]) M := by
  have hlen : (startD N [.s ns]).length = L := by unfold startD; simp; omega
  have hget : (startD N [.s ns])[0]? = some (some (.s ns)) := rfl
  unfold wSeq wAsg wCall wCons wV wNil gNameD
  rw [hget]
  refine hsp M _ fun p mo hp pm => ?_
  refine hs true p M _ _ (st0 ns) 0 _ lawV ⟨?_, ?_, ?_, ?_, ?_⟩ hU ⟨fun _ _ _ _ _ h => h.elim, fun M' v n _ _ h => ?_, fun _ _ _ _ _ _ _ _ h => h.elim, fun _ _ _ _ _ h => h, fun _ _ _ _ _ h => h⟩
  · rw [List.length_set]; exact hlen
  · exact fun _ => ⟨mo, mupd_same, pm⟩
  · intro b m e hb
    rw [mupd_ne (hb rfl)]
    exact e
  · intro i v e
    unfold st0 DL.put at e
    by_cases i1 : i = 1
    · subst i1
      rw [if_pos rfl] at e
      cases e
      exact ⟨.r p, List.getElem?_set_self (by rw [hlen]; omega), .inl ⟨h1, rfl, fun _ => rfl⟩⟩
    · rw [if_neg i1] at e
      by_cases i0 : i = 0
      · subst i0
        rw [if_pos rfl] at e
        cases e
        exact ⟨.s ns, by rw [List.getElem?_set_ne (by omega)]; exact hget, .inl ⟨h0, rfl, fun h => by cases h⟩⟩
      · rw [if_neg i0] at e
        cases e
  · intro i j b _ hi s1 _ _ _
    unfold st0 DL.put at s1
    by_cases i1 : i = 1
    · subst i1; exact h1 hi
    · rw [if_neg i1] at s1
      by_cases i0 : i = 0
      · subst i0; exact h0 hi
      · rw [if_neg i0] at s1; cases s1
  · have h : v = .d (.bool true) := h
    subst h
    exact hQ M'
theorem uLoop_ind {t : TGt} {U : US} {V : UEnds} (Inv : List PyData → PSt → Nat → Prop) (h0 : ∀ σ n, Inv [] σ n → V.nx σ n)
    (h1 : ∀ x xs σ n, Inv (x :: xs) σ n → ∃ σ1, t x σ = some σ1 ∧ ∀ N : PSt → Nat → Prop, (∀ σ' n', Inv xs σ' n' → N σ' n') → U { V with nx := N, ct := N, bk := V.nx } σ1 n) : ∀ (xs : List PyData) (σ : PSt) (n : Nat), Inv xs σ n → uLoop t U V xs σ n
  | [], σ, n, h => h0 σ n h
  | x :: xs, σ, n, h => by
    obtain ⟨σ1, e, k⟩ := h1 x xs σ n h
    exact ⟨σ1, e, k _ fun σ' n' h' => uLoop_ind Inv h0 h1 xs σ' n' h'⟩
theorem uLoop_rng {t : TGt} {U : US} {V : UEnds} (lo : Int) (m : Nat) (Inv : Nat → PSt → Nat → Prop) (σ : PSt) (n : Nat) (hs : Inv 0 σ n) (h0 : ∀ σ n, Inv m σ n → V.nx σ n)
    (h1 : ∀ i σ n, i < m → Inv i σ n → ∃ σ1, t (.int (lo + (i : Int))) σ = some σ1 ∧ ∀ N : PSt → Nat → Prop, (∀ σ' n', Inv (i + 1) σ' n' → N σ' n') → U { V with nx := N, ct := N, bk := V.nx } σ1 n) : uLoop t U V (rngL lo m) σ n := by
  refine uLoop_ind (fun xs σ n => ∃ i, i ≤ m ∧ xs = (rngL lo m).drop i ∧ Inv i σ n) ?_ ?_ _ _ _ ⟨0, Nat.zero_le _, rfl, hs⟩
  · rintro σ n ⟨i, hi, e, h⟩
    have : m ≤ i := by
      have := congrArg List.length e
      simp [rngL] at this
      omega
    obtain rfl : i = m := by omega
    exact h0 σ n h
  · rintro x xs σ n ⟨i, hi, e, h⟩
    have hlt : i < m := by
      rcases Nat.lt_or_ge i m with q | q
      · exact q
      · rw [List.drop_of_length_le (by simp [rngL]; exact q)] at e; cases e
    have hg : (rngL lo m)[i]? = some (.int (lo + (i : Int))) := by simp [rngL, hlt]
    rw [drop_get hg] at e
    obtain ⟨rfl, rfl⟩ := List.cons.inj e
    obtain ⟨σ1, e1, k⟩ := h1 i σ n hlt h
    exact ⟨σ1, e1, fun N hN => k N fun σ' n' h' => hN σ' n' ⟨i + 1, hlt, rfl, h'⟩⟩
theorem uComp_ind {t : TGt} {ut : UT} {ue : UE} {σ0 : PSt} {Q : List PyData → Nat → Prop} (Inv : List PyData → List PyData → Nat → Prop) (h0 : ∀ acc n, Inv [] acc n → Q acc n)
    (h1 : ∀ x xs acc n, Inv (x :: xs) acc n → ∃ σ1, t x σ0 = some σ1 ∧ ut σ1 n fun b n1 => if b = true then ue σ1 n1 fun v n2 => onD v fun y => acc.length < sizeLine ∧ Inv xs (acc ++ [y]) n2 else Inv xs acc n1)
    (mt : ∀ σ n (Z Z' : Bool → Nat → Prop), (∀ b n, Z b n → Z' b n) → ut σ n Z → ut σ n Z') (me : ∀ σ n (Z Z' : WK), (∀ b n, Z b n → Z' b n) → ue σ n Z → ue σ n Z') : ∀ (xs acc : List PyData) (n : Nat), Inv xs acc n → uComp t ut ue σ0 xs acc n Q
  | [], acc, n, h => h0 acc n h
  | x :: xs, acc, n, h => by
    obtain ⟨σ1, e, k⟩ := h1 x xs acc n h
    refine ⟨σ1, e, mt _ _ _ _ (fun b n1 h2 => ?_) k⟩
    by_cases hb : b = true
    · rw [if_pos hb] at h2 ⊢
      refine me _ _ _ _ (fun v n2 h3 => ?_) h2
      obtain ⟨y, rfl, hl, h4⟩ := onD_inv h3
      exact ⟨hl, uComp_ind Inv h0 h1 mt me xs _ n2 h4⟩
    · rw [if_neg hb] at h2 ⊢
      exact uComp_ind Inv h0 h1 mt me xs acc n1 h2
theorem emb_some {f : FE} {σ : PSt} {n : Nat} {Q : WK} {x : PyData} (h : f (pd σ) = some x) (q : Q (.d x) n) : emb f σ n Q := ⟨x, h, q⟩
theorem ex_some {α : Type} {a : α} {p : α → Prop} : (∃ x, some a = some x ∧ p x) ↔ p a := ⟨fun ⟨_, e, h⟩ => by cases e; exact h, fun h => ⟨_, rfl, h⟩⟩
theorem sz0 : (0 ≤ sizeLine) = True := eq_true (list_len (by decide))
theorem sz1 : (1 ≤ sizeLine) = True := eq_true (list_len (by decide))
theorem sz2 : (2 ≤ sizeLine) = True := eq_true (list_len (by decide))
theorem sz3 : (3 ≤ sizeLine) = True := eq_true (list_len (by decide))
theorem sz4 : (4 ≤ sizeLine) = True := eq_true (list_len (by decide))
theorem sz5 : (5 ≤ sizeLine) = True := eq_true (list_len (by decide))
theorem sz6 : (6 ≤ sizeLine) = True := eq_true (list_len (by decide))
theorem sz7 : (7 ≤ sizeLine) = True := eq_true (list_len (by decide))
theorem sz8 : (8 ≤ sizeLine) = True := eq_true (list_len (by decide))
theorem sz9 : (9 ≤ sizeLine) = True := eq_true (list_len (by decide))
theorem sz10 : (10 ≤ sizeLine) = True := eq_true (list_len (by decide))
theorem sz11 : (11 ≤ sizeLine) = True := eq_true (list_len (by decide))
theorem sz12 : (12 ≤ sizeLine) = True := eq_true (list_len (by decide))
theorem sz13 : (13 ≤ sizeLine) = True := eq_true (list_len (by decide))
end DL
namespace DL
open PySem PySem.Spec L2 RZ
open PyProof.Rows hiding St
theorem gI0_e1 (g : Int → Int → PyData) {i j} : gI0 g  (PyData.int i) (PyData.int j) = (some (g i j)) := rfl
theorem gI_e1 (C : Int → Int → Prop) [∀ i j, Decidable (C i j)] (g : Int → Int → PyData) {i j} : gI C g  (PyData.int i) (PyData.int j) = (if C i j then some (g i j) else none) := rfl
theorem gAdd_e1  {i j} : gAdd  (PyData.int i) (PyData.int j) = (some (.int (i + j))) := rfl
theorem gAdd_e2  {i j} : gAdd  (PyData.str i) (PyData.str j) = (if i.length + j.length ≤ sizeLine then some (.str (i ++ j)) else none) := rfl
theorem gIn_e1 (neg : Bool) {a bs} : gIn neg  a (PyData.tuple bs) = (if SeqAt.shaped a = true ∧ SeqAt.shaped (.tuple bs) = true then some (.bool (if neg then !bs.any fun y => PyData.eqv y a else bs.any fun y => PyData.eqv y a)) else none) := rfl
theorem gIn_e2 (neg : Bool) {a bs} : gIn neg  a (PyData.list bs) = (if SeqAt.shaped a = true ∧ SeqAt.shaped (.list bs) = true then some (.bool (if neg then !bs.any fun y => PyData.eqv y a else bs.any fun y => PyData.eqv y a)) else none) := rfl
theorem gIs_e1 (neg : Bool) {a} : gIs neg  a PyData.none = (some (.bool (if neg then !isNone a else isNone a))) := rfl
theorem gIx_e1  {i xs} : gIx  (PyData.tuple xs) (PyData.int i) = (L2.atI xs i) := rfl
theorem gIx_e2  {i xs} : gIx  (PyData.list xs) (PyData.int i) = (L2.atI xs i) := rfl
theorem gIx_e3  {i z} : gIx  (PyData.str z) (PyData.int i) = (if z.length ≤ sizeLine then (L2.atI z.cps.toList i).map fun c => .str ⟨#[c]⟩ else none) := rfl
theorem gB_e1 (left : Bool) (C : Int → Int → Prop) [∀ i j, Decidable (C i j)] (g : Int → Int → PyData) {i j} : gB left C g  (PyData.int i) (PyData.int j) = (if C i j then some (g i j) else none) := rfl
theorem gB_e2 (left : Bool) (C : Int → Int → Prop) [∀ i j, Decidable (C i j)] (g : Int → Int → PyData) {i j} : gB left C g  (PyData.bool i) (PyData.int j) = (if left = true ∧ C (b2i i) j then some (g (b2i i) j) else none) := rfl
theorem gB_e3 (left : Bool) (C : Int → Int → Prop) [∀ i j, Decidable (C i j)] (g : Int → Int → PyData) {i j} : gB left C g  (PyData.int i) (PyData.bool j) = (if left = false ∧ C i (b2i j) then some (g i (b2i j)) else none) := rfl
theorem gLen_e1  {z} : gLen  ([PyData.str z]) = (if z.length ≤ sizeLine then some (.int z.length) else none) := rfl
theorem gLen_e2  {xs} : gLen  ([PyData.tuple xs]) = (some (.int xs.length)) := rfl
theorem gLen_e3  {xs} : gLen  ([PyData.list xs]) = (some (.int xs.length)) := rfl
theorem gAllQ_e1 (f : List Bool → Bool) {xs} : gAllQ f  ([PyData.list xs]) = ((allB xs).map fun bs => .bool (f bs)) := rfl
theorem gRepr_e1  {x} : gRepr  [x] = (if Showy x then some (.str x.shown) else none) := rfl
open Classical in
theorem gSortA_e1  {xs} : gSortA  ([PyData.list xs]) = (if SortOk xs then some (.list (sortedL xs)) else none) := rfl
open Classical in
theorem gSortS_e1  {xs} : gSortS  ([PyData.list xs]) = (if PySem.W.SemiOk xs then some (.list (sortedL xs)) else none) := rfl
open Classical in
theorem gSortAL_e1  {xs} : gSortAL  ([PyData.list xs]) = (if SortOk xs then some (sortedL xs) else none) := rfl
open Classical in
theorem gSortSL_e1  {xs} : gSortSL  ([PyData.list xs]) = (if PySem.W.SemiOk xs then some (sortedL xs) else none) := rfl
theorem gTuple_e1  {xs} : gTuple  ([PyData.list xs]) = (some (.tuple xs)) := rfl
theorem gTuple_e2  {xs} : gTuple  ([PyData.tuple xs]) = (some (.tuple xs)) := rfl
theorem gList_e1  {xs} : gList  ([PyData.list xs]) = (some (.list xs)) := rfl
theorem gList_e2  {xs} : gList  ([PyData.tuple xs]) = (some (.list xs)) := rfl
theorem gInt_e1  {i} : gInt  ([PyData.int i]) = (some (.int i)) := rfl
theorem gInt_e2  {b} : gInt  ([PyData.bool b]) = (some (.int (if b then 1 else 0))) := rfl
theorem gSl_e1  {hi lo xs} : gSl  (PyData.tuple xs) lo hi = (some (.tuple (cutD xs lo hi))) := rfl
theorem gSl_e2  {hi lo xs} : gSl  (PyData.list xs) lo hi = (some (.list (cutD xs lo hi))) := rfl
theorem gRev_e1  {xs} : gRev  (PyData.tuple xs) = (some (.tuple xs.reverse)) := rfl
theorem gRev_e2  {xs} : gRev  (PyData.list xs) = (some (.list xs.reverse)) := rfl
theorem gSeq_e1  {xs} : gSeq  (PyData.list xs) = (some xs) := rfl
theorem gSeq_e2  {xs} : gSeq  (PyData.tuple xs) = (some xs) := rfl
theorem gEnum_e1  {xs} : gEnum  ([PyData.list xs]) = (some (enumL 0 xs)) := rfl
theorem gEnumT_e1  {xs} : gEnumT  ([PyData.tuple xs]) = (some (enumL 0 xs)) := rfl
theorem gZip_e1  {xs ys} : gZip  ([PyData.list xs, PyData.list ys]) = (some (zipL xs ys)) := rfl
theorem gZip_e2  {xs ys} : gZip  ([PyData.tuple xs, PyData.tuple ys]) = (some (zipL xs ys)) := rfl
theorem gZipT_e1  {xs ys} : gZipT  ([PyData.tuple xs, PyData.tuple ys]) = (some (zipL xs ys)) := rfl
theorem gListL_e1  {xs} : gListL  ([PyData.list xs]) = (some xs) := rfl
theorem gListL_e2  {xs} : gListL  ([PyData.tuple xs]) = (some xs) := rfl
theorem gNeg_e1  {i} : gNeg  (PyData.int i) = (some (.int (-i))) := rfl
theorem gNot_e1  {b} : gNot  (PyData.bool b) = (some (.bool (!b))) := rfl
theorem asB_e1  {b} : asB  (PyData.bool b) = (some b) := rfl
theorem asL_e1  {xs} : asL  (PyData.list xs) = (some xs) := rfl
theorem asI1_e1  {i} : asI1  (PyData.int i) = (some i) := rfl
theorem gAdd_c1 {xs ys : List PyData} (h : xs.length + ys.length ≤ 1000000) : gAdd (.tuple xs) (.tuple ys) = some (.tuple (xs ++ ys)) := if_pos (list_len h)
theorem gAdd_c2 {xs ys : List PyData} (h : xs.length + ys.length ≤ 1000000) : gAdd (.list xs) (.list ys) = some (.list (xs ++ ys)) := if_pos (list_len h)
theorem gRng1_c {j : Int} (h1 : -1000000000 ≤ j) (h2 : j ≤ 1000000000) : gRng1 [.int j] = some (rngL 0 j.toNat) := if_pos (by omega)
theorem gRng2_c {i j : Int} (h1 : -1000000000 ≤ i) (h2 : i ≤ 1000000000) (h3 : -1000000000 ≤ j) (h4 : j ≤ 1000000000) : gRng2 [.int i, .int j] = some (rngL i (j - i).toNat) := if_pos (by omega)
theorem gRepT_c {x : PyData} {xs : List PyData} {k : Int} (h1 : 0 ≤ k) (h2 : k ≤ 1000) (h3 : xs.length < 1000) : gRepT (.tuple (x :: xs)) (.int k) = some (.tuple (List.replicate k.toNat (x :: xs)).flatten) := if_pos ⟨by simp, h1, h2, by simp; omega⟩
theorem gRepL_c {xs : List PyData} {k : Int} (h1 : 0 ≤ k) (h2 : k ≤ 1000) (h3 : xs.length ≤ 1000) : gRepL (.list xs) (.int k) = some (.list (List.replicate k.toNat xs).flatten) := if_pos ⟨h1, h2, h3⟩
theorem pMk_c {mk : List PyData → PyData} {fr : FA} {π : PD} {xs : List PyData} (h : fr π = some xs) (hl : xs.length ≤ 1000000) : pMk mk fr π = some (mk xs) := by unfold pMk; rw [h]; exact if_pos (list_len hl)
theorem pApp_c {i : Nat} {fe : FE} {π : PD} {xs : List PyData} {x : PyData} (h : π i = some (.list xs)) (h2 : fe π = some x) (hl : xs.length < 1000000) : pApp i fe π = some (.nx (put π i (.list (xs ++ [x])))) := by unfold pApp; rw [h, h2]; exact if_pos (list_lt (by omega))
theorem pExt_c {i : Nat} {fe : FE} {π : PD} {xs ys : List PyData} (h : π i = some (.list xs)) (h2 : fe π = some (.list ys)) (hl : xs.length + ys.length ≤ 1000000) : pExt i fe π = some (.nx (put π i (.list (xs ++ ys)))) := by unfold pExt; rw [h, h2]; exact if_pos (list_len hl)
theorem put_e {α : Type} (σ : Nat → Option α) (i : Nat) (v : α) (j : Nat) : put σ i v j = if j = i then some v else σ j := rfl
theorem wipeP_nil {α : Type} (σ : Nat → Option α) : wipeP σ [] = σ := rfl
theorem wipeP_cons {α : Type} (σ : Nat → Option α) (v : Nat) (vs : List Nat) (j : Nat) : wipeP σ (v :: vs) j = if j = v then none else wipeP σ vs j := rfl
theorem pd_e (σ : PSt) (i : Nat) : pd σ i = (σ i).bind pvD := rfl
theorem pvD_d (x : PyData) : pvD (.d x) = some x := rfl
theorem pvD_pen : pvD .pen = none := rfl
theorem pvD_s (ns : List Int) : pvD (.s ns) = none := rfl
theorem startP_e {α : Type} (xs : List α) (i : Nat) : startP xs i = xs[i]? := rfl
theorem dsOf_n : dsOf [] = some [] := rfl
theorem dsOf_c (x : PyData) (r : List PV) : dsOf (.d x :: r) = (dsOf r).map (x :: ·) := rfl
theorem onDs_m {xs : List PyData} {k : List PyData → Prop} : onDs (xs.map .d) k = k xs := onDs_map
theorem onDs_e {vs : List PV} {k : List PyData → Prop} {xs : List PyData} (h : dsOf vs = some xs) : onDs vs k = k xs := by unfold onDs; rw [h]
theorem onDs_0 {k : List PyData → Prop} : onDs [] k = k [] := rfl
theorem onDs_1 {a : PyData} {k : List PyData → Prop} : onDs [.d a] k = k [a] := rfl
theorem onDs_2 {a b : PyData} {k : List PyData → Prop} : onDs [.d a, .d b] k = k [a, b] := rfl
theorem onDs_3 {a b c : PyData} {k : List PyData → Prop} : onDs [.d a, .d b, .d c] k = k [a, b, c] := rfl
theorem onDs_4 {a b c d : PyData} {k : List PyData → Prop} : onDs [.d a, .d b, .d c, .d d] k = k [a, b, c, d] := rfl
theorem onDs_5 {a b c d e : PyData} {k : List PyData → Prop} : onDs [.d a, .d b, .d c, .d d, .d e] k = k [a, b, c, d, e] := rfl
theorem onDs_6 {a b c d e f : PyData} {k : List PyData → Prop} : onDs [.d a, .d b, .d c, .d d, .d e, .d f] k = k [a, b, c, d, e, f] := rfl
theorem thenP_nx (F : FS) (π : PD) : thenP F (.nx π) = F π := rfl
theorem thenP_rt (F : FS) (x : PyData) : thenP F (.rt x) = some (.rt x) := rfl
theorem thenP_rl (F : FS) (x : List PyData) : thenP F (.rl x) = some (.rl x) := rfl
theorem thenP_bk (F : FS) (π : PD) : thenP F (.bk π) = some (.bk π) := rfl
theorem thenP_ct (F : FS) (π : PD) : thenP F (.ct π) = some (.ct π) := rfl
theorem turnP_nx (F : FS) (π : PD) : turnP F (.nx π) = F π := rfl
theorem turnP_ct (F : FS) (π : PD) : turnP F (.ct π) = F π := rfl
theorem turnP_bk (F : FS) (π : PD) : turnP F (.bk π) = some (.nx π) := rfl
theorem turnP_rt (F : FS) (x : PyData) : turnP F (.rt x) = some (.rt x) := rfl
theorem turnP_rl (F : FS) (x : List PyData) : turnP F (.rl x) = some (.rl x) := rfl
theorem outP_rt (x : PyData) : outP (.rt x) = some x := rfl
theorem outP_rl (x : List PyData) : outP (.rl x) = some (.list x) := rfl
theorem outP_nx (π : PD) : outP (.nx π) = some .none := rfl
theorem outL_rl (x : List PyData) : outL (.rl x) = some x := rfl
theorem parP_e (i j : Nat) (π : PD) (x y : PyData) : parP i j π [x, y] = some (.nx (put (put π i x) j y)) := rfl
theorem parP3_e (i j l : Nat) (π : PD) (x y z : PyData) : parP3 i j l π [x, y, z] = some (.nx (put (put (put π i x) j y) l z)) := rfl
theorem parU_e (i j : Nat) (V : UEnds) (σ : PSt) (n : Nat) (x y : PV) : parU i j V σ n [x, y] = V.nx (put (put σ i x) j y) n := rfl
theorem parU3_e (i j l : Nat) (V : UEnds) (σ : PSt) (n : Nat) (x y z : PV) : parU3 i j l V σ n [x, y, z] = V.nx (put (put (put σ i x) j y) l z) n := rfl
theorem bind_ite {α β : Type} {c : Prop} [Decidable c] (a b : Option α) (f : α → Option β) : (if c then a else b).bind f = if c then a.bind f else b.bind f := by split <;> rfl
theorem map_ite {α β : Type} {c : Prop} [Decidable c] (a b : Option α) (f : α → β) : (if c then a else b).map f = if c then a.map f else b.map f := by split <;> rfl
theorem eqv_none_bool  (b : Bool) : PyData.eqv (.none) (.bool b) = false := by simp [PyData.eqv]
theorem eqv_none_int  (i : Int) : PyData.eqv (.none) (.int i) = false := by simp [PyData.eqv]
theorem eqv_none_str  (s : Str) : PyData.eqv (.none) (.str s) = false := by simp [PyData.eqv]
theorem eqv_none_list  (xs : List PyData) : PyData.eqv (.none) (.list xs) = false := by simp [PyData.eqv]
theorem eqv_none_tuple  (ys : List PyData) : PyData.eqv (.none) (.tuple ys) = false := by simp [PyData.eqv]
theorem eqv_bool_none (b : Bool)  : PyData.eqv (.bool b) (.none) = false := by simp [PyData.eqv]
theorem eqv_bool_str (b : Bool) (s : Str) : PyData.eqv (.bool b) (.str s) = false := by simp [PyData.eqv]
theorem eqv_bool_list (b : Bool) (xs : List PyData) : PyData.eqv (.bool b) (.list xs) = false := by simp [PyData.eqv]
theorem eqv_bool_tuple (b : Bool) (ys : List PyData) : PyData.eqv (.bool b) (.tuple ys) = false := by simp [PyData.eqv]
theorem eqv_int_none (i : Int)  : PyData.eqv (.int i) (.none) = false := by simp [PyData.eqv]
theorem eqv_int_str (i : Int) (s : Str) : PyData.eqv (.int i) (.str s) = false := by simp [PyData.eqv]
theorem eqv_int_list (i : Int) (xs : List PyData) : PyData.eqv (.int i) (.list xs) = false := by simp [PyData.eqv]
theorem eqv_int_tuple (i : Int) (ys : List PyData) : PyData.eqv (.int i) (.tuple ys) = false := by simp [PyData.eqv]
theorem eqv_str_none (s : Str)  : PyData.eqv (.str s) (.none) = false := by simp [PyData.eqv]
theorem eqv_str_bool (s : Str) (b : Bool) : PyData.eqv (.str s) (.bool b) = false := by simp [PyData.eqv]
theorem eqv_str_int (s : Str) (i : Int) : PyData.eqv (.str s) (.int i) = false := by simp [PyData.eqv]
theorem eqv_str_list (s : Str) (xs : List PyData) : PyData.eqv (.str s) (.list xs) = false := by simp [PyData.eqv]
theorem eqv_str_tuple (s : Str) (ys : List PyData) : PyData.eqv (.str s) (.tuple ys) = false := by simp [PyData.eqv]
theorem eqv_list_none (xs : List PyData)  : PyData.eqv (.list xs) (.none) = false := by simp [PyData.eqv]
theorem eqv_list_bool (xs : List PyData) (b : Bool) : PyData.eqv (.list xs) (.bool b) = false := by simp [PyData.eqv]
theorem eqv_list_int (xs : List PyData) (i : Int) : PyData.eqv (.list xs) (.int i) = false := by simp [PyData.eqv]
theorem eqv_list_str (xs : List PyData) (s : Str) : PyData.eqv (.list xs) (.str s) = false := by simp [PyData.eqv]
theorem eqv_list_tuple (xs : List PyData) (ys : List PyData) : PyData.eqv (.list xs) (.tuple ys) = false := by simp [PyData.eqv]
theorem eqv_tuple_none (ys : List PyData)  : PyData.eqv (.tuple ys) (.none) = false := by simp [PyData.eqv]
theorem eqv_tuple_bool (ys : List PyData) (b : Bool) : PyData.eqv (.tuple ys) (.bool b) = false := by simp [PyData.eqv]
theorem eqv_tuple_int (ys : List PyData) (i : Int) : PyData.eqv (.tuple ys) (.int i) = false := by simp [PyData.eqv]
theorem eqv_tuple_str (ys : List PyData) (s : Str) : PyData.eqv (.tuple ys) (.str s) = false := by simp [PyData.eqv]
theorem eqv_tuple_list (ys : List PyData) (xs : List PyData) : PyData.eqv (.tuple ys) (.list xs) = false := by simp [PyData.eqv]
theorem eqv_tup (xs ys : List PyData) : PyData.eqv (.tuple xs) (.tuple ys) = PyData.eqvAll xs ys := by simp [PyData.eqv]
theorem eqv_lst (xs ys : List PyData) : PyData.eqv (.list xs) (.list ys) = PyData.eqvAll xs ys := by simp [PyData.eqv]
theorem eqv_nn : PyData.eqv .none .none = true := by simp [PyData.eqv]
theorem eqvAll_nn : PyData.eqvAll [] [] = true := by simp [PyData.eqvAll]
theorem eqvAll_nc (x : PyData) (xs : List PyData) : PyData.eqvAll [] (x :: xs) = false := by simp [PyData.eqvAll]
theorem eqvAll_cn (x : PyData) (xs : List PyData) : PyData.eqvAll (x :: xs) [] = false := by simp [PyData.eqvAll]
theorem eqvAll_cc (x y : PyData) (xs ys : List PyData) : PyData.eqvAll (x :: xs) (y :: ys) = (PyData.eqv x y && PyData.eqvAll xs ys) := by simp [PyData.eqvAll]
theorem eqOk_sh {a b : PyData} (ha : SeqAt.shaped a = true) (hb : SeqAt.shaped b = true) : eqOk a b = true := by
  unfold eqOk
  split
  · rfl
  · rw [ha, hb]; rfl
theorem ite_and (b c : Bool) : (if b = true then some (PyData.bool c) else some (.bool false)) = some (.bool (b && c)) := by cases b <;> rfl
theorem ite_or (b c : Bool) : (if b = true then some (PyData.bool true) else some (.bool c)) = some (.bool (b || c)) := by cases b <;> rfl
theorem iteB_and (b c : Bool) : (if b = true then some c else some false) = some (b && c) := by cases b <;> rfl
theorem iteB_or (b c : Bool) : (if b = true then some true else some c) = some (b || c) := by cases b <;> rfl
theorem zipL_nn : zipL [] [] = [] := rfl
theorem zipL_cc (x y : PyData) (xs ys : List PyData) : zipL (x :: xs) (y :: ys) = .tuple [x, y] :: zipL xs ys := rfl
theorem enumL_n (n : Nat) : enumL n [] = [] := rfl
theorem enumL_c (n : Nat) (x : PyData) (xs : List PyData) : enumL n (x :: xs) = .tuple [.int n, x] :: enumL (n + 1) xs := rfl
theorem isNone_n : isNone .none = true := rfl
theorem isNone_b (b : Bool) : isNone (.bool b) = false := rfl
theorem isNone_i (b : Int) : isNone (.int b) = false := rfl
theorem isNone_s (b : Str) : isNone (.str b) = false := rfl
theorem isNone_l (b : List PyData) : isNone (.list b) = false := rfl
theorem isNone_t (b : List PyData) : isNone (.tuple b) = false := rfl
theorem allB_n : allB [] = some [] := rfl
theorem allB_c (b : Bool) (r : List PyData) : allB (.bool b :: r) = (allB r).map (b :: ·) := rfl
end DL
namespace DL
open PySem PySem.Spec L2 RZ
open PyProof.Rows hiding St

theorem pLoop_inv {q : TGp} {F : FS} (Inv : List PyData → PD → Prop) (h : ∀ x xs π, Inv (x :: xs) π → ∃ π1 π2, q x π = some π1 ∧ F π1 = some (.nx π2) ∧ Inv xs π2) : ∀ xs π, Inv xs π → ∃ π', pLoop q F xs π = some (.nx π') ∧ Inv [] π'
  | [], π, hi => ⟨π, rfl, hi⟩
  | x :: xs, π, hi => by
    obtain ⟨π1, π2, e1, e2, h2⟩ := h x xs π hi
    obtain ⟨π', e3, h3⟩ := pLoop_inv Inv h xs π2 h2
    exact ⟨π', by unfold pLoop; rw [e1]; show (F π1).bind _ = _; rw [e2]; exact e3, h3⟩
theorem pLoop_ret {q : TGp} {F : FS} (Inv : List PyData → PD → Prop) (R : PO → Prop) (h : ∀ x xs π, Inv (x :: xs) π → ∃ π1, q x π = some π1 ∧ ((∃ π2, F π1 = some (.nx π2) ∧ Inv xs π2) ∨ ∃ r, F π1 = some (.rt r) ∧ R (.rt r))) (h0 : ∀ π, Inv [] π → R (.nx π)) : ∀ xs π, Inv xs π → ∃ o, pLoop q F xs π = some o ∧ R o
  | [], π, hi => ⟨.nx π, rfl, h0 π hi⟩
  | x :: xs, π, hi => by
    obtain ⟨π1, e1, h1⟩ := h x xs π hi
    rcases h1 with ⟨π2, e2, h2⟩ | ⟨r, e2, h2⟩
    · obtain ⟨o, e3, h3⟩ := pLoop_ret Inv R h h0 xs π2 h2
      exact ⟨o, by unfold pLoop; rw [e1]; show (F π1).bind _ = _; rw [e2]; exact e3, h3⟩
    · exact ⟨.rt r, by unfold pLoop; rw [e1]; show (F π1).bind _ = _; rw [e2]; rfl, h2⟩
theorem runP_of {k : Nat} {F : FS} {xs : List PyData} (h : xs.length = k) : runP k F xs = (F (startP xs)).bind outP := if_pos h
theorem runL_of {k : Nat} {F : FS} {xs : List PyData} (h : xs.length = k) : runL k F xs = (F (startP xs)).bind outL := if_pos h
theorem pLoop_rng {q : TGp} {F : FS} (lo : Int) (m : Nat) (Inv : Nat → PD → Prop) (h : ∀ i π, i < m → Inv i π → ∃ π1 π2, q (.int (lo + (i : Int))) π = some π1 ∧ F π1 = some (.nx π2) ∧ Inv (i + 1) π2) (π : PD) (h0 : Inv 0 π) : ∃ π', pLoop q F (rngL lo m) π = some (.nx π') ∧ Inv m π' := by
  obtain ⟨π', e, i, hi, hr, hI⟩ := pLoop_inv (q := q) (F := F) (fun rest π => ∃ i, i ≤ m ∧ rest = (rngL lo m).drop i ∧ Inv i π) (by
    rintro x xs π ⟨i, hi, e, hI⟩
    have hlt : i < m := by
      rcases Nat.lt_or_ge i m with q | q
      · exact q
      · rw [List.drop_of_length_le (by simp [rngL]; exact q)] at e; cases e
    have hg : (rngL lo m)[i]? = some (.int (lo + (i : Int))) := by simp [rngL, hlt]
    rw [drop_get hg] at e
    obtain ⟨rfl, rfl⟩ := List.cons.inj e
    obtain ⟨π1, π2, e1, e2, h2⟩ := h i π hlt hI
    exact ⟨π1, π2, e1, e2, i + 1, hlt, rfl, h2⟩) (rngL lo m) π ⟨0, Nat.zero_le _, rfl, h0⟩
  have : m ≤ i := by
    have := congrArg List.length hr
    simp [rngL] at this
    omega
  obtain rfl : i = m := by omega
  exact ⟨π', e, hI⟩
theorem pLoop_seq {α : Type} {q : TGp} {F : FS} (f : α → PyData) (xs : List α) (Inv : List α → List α → PD → Prop) (h : ∀ done x left π, xs = done ++ x :: left → Inv done (x :: left) π → ∃ π1 π2, q (f x) π = some π1 ∧ F π1 = some (.nx π2) ∧ Inv (done ++ [x]) left π2) (π : PD) (h0 : Inv [] xs π) : ∃ π', pLoop q F (xs.map f) π = some (.nx π') ∧ Inv xs [] π' := by
  obtain ⟨π', e, done, left, hx, hr, hI⟩ := pLoop_inv (q := q) (F := F) (fun rest π => ∃ done left, xs = done ++ left ∧ rest = left.map f ∧ Inv done left π) (by
    rintro x rest π ⟨done, left, hx, hr, hI⟩
    cases left with
    | nil => cases hr
    | cons y left =>
      simp only [List.map_cons] at hr
      obtain ⟨rfl, rfl⟩ := List.cons.inj hr
      obtain ⟨π1, π2, e1, e2, h2⟩ := h done y left π hx hI
      exact ⟨π1, π2, e1, e2, done ++ [y], left, by rw [hx]; simp, rfl, h2⟩) (xs.map f) π ⟨[], xs, rfl, rfl, h0⟩
  cases left with
  | cons _ _ => cases hr
  | nil =>
    rw [List.append_nil] at hx
    subst hx
    exact ⟨π', e, hI⟩
theorem pComp_e {q : TGp} {ft : FT} {fe : FE} {π0 : PD} (p : PyData → Bool) (g : PyData → PyData) : ∀ (xs acc : List PyData), (∀ x ∈ xs, ∃ π1, q x π0 = some π1 ∧ ft π1 = some (p x) ∧ (p x = true → fe π1 = some (g x))) → acc.length + xs.length ≤ 1000000 → pComp q ft fe π0 xs acc = some (acc ++ (xs.filter p).map g)
  | [], acc, _, _ => by simp [pComp]
  | x :: xs, acc, h, hl => by
    obtain ⟨π1, e1, e2, e3⟩ := h x (by simp)
    unfold pComp
    rw [e1]
    show (ft π1).bind _ = _
    rw [e2]
    show (if p x = true then _ else _) = _
    by_cases hp : p x = true
    · rw [if_pos hp, e3 hp]
      show (if acc.length < sizeLine then _ else _) = _
      rw [if_pos (list_lt (by simp at hl; omega)), pComp_e p g xs _ (fun y hy => h y (by simp [hy])) (by simp at hl ⊢; omega), List.filter_cons_of_pos hp]
      simp
    · rw [if_neg hp, pComp_e p g xs _ (fun y hy => h y (by simp [hy])) (by simp at hl ⊢; omega), List.filter_cons_of_neg hp]
theorem pLc_e {fi : FA} {q : TGp} {ft : FT} {fe : FE} {vs : List Nat} {π : PD} (xs : List PyData) (p : PyData → Bool) (g : PyData → PyData) (hi : fi π = some xs) (hl : xs.length ≤ 1000000) (h : ∀ x ∈ xs, ∃ π1, q x (wipeP π vs) = some π1 ∧ ft π1 = some (p x) ∧ (p x = true → fe π1 = some (g x))) : pLc fi q ft fe vs π = some (.list ((xs.filter p).map g)) := by
  unfold pLc
  rw [hi]
  show (pComp q ft fe _ xs []).map _ = _
  rw [pComp_e p g xs [] h (by simpa using hl)]
  rfl
theorem pLcL_e {fi : FA} {q : TGp} {ft : FT} {fe : FE} {vs : List Nat} {π : PD} (xs : List PyData) (p : PyData → Bool) (g : PyData → PyData) (hi : fi π = some xs) (hl : xs.length ≤ 1000000) (h : ∀ x ∈ xs, ∃ π1, q x (wipeP π vs) = some π1 ∧ ft π1 = some (p x) ∧ (p x = true → fe π1 = some (g x))) : pLcL fi q ft fe vs π = some ((xs.filter p).map g) := by
  unfold pLcL
  rw [hi]
  show pComp q ft fe _ xs [] = _
  rw [pComp_e p g xs [] h (by simpa using hl)]
  rfl
theorem filter_yes {α : Type} (xs : List α) : xs.filter (fun _ => true) = xs := by simp
theorem pLc_m {fi : FA} {q : TGp} {fe : FE} {vs : List Nat} {π : PD} (xs : List PyData) (g : PyData → PyData) (hi : fi π = some xs) (hl : xs.length ≤ 1000000) (h : ∀ x ∈ xs, ∃ π1, q x (wipeP π vs) = some π1 ∧ fe π1 = some (g x)) : pLc fi q pYes fe vs π = some (.list (xs.map g)) := by
  rw [pLc_e xs (fun _ => true) g hi hl fun x hx => ?_]
  · rw [filter_yes]
  · obtain ⟨π1, e1, e2⟩ := h x hx
    exact ⟨π1, e1, rfl, fun _ => e2⟩
theorem pLcL_m {fi : FA} {q : TGp} {fe : FE} {vs : List Nat} {π : PD} (xs : List PyData) (g : PyData → PyData) (hi : fi π = some xs) (hl : xs.length ≤ 1000000) (h : ∀ x ∈ xs, ∃ π1, q x (wipeP π vs) = some π1 ∧ fe π1 = some (g x)) : pLcL fi q pYes fe vs π = some (xs.map g) := by
  rw [pLcL_e xs (fun _ => true) g hi hl fun x hx => ?_]
  · rw [filter_yes]
  · obtain ⟨π1, e1, e2⟩ := h x hx
    exact ⟨π1, e1, rfl, fun _ => e2⟩
theorem allB_mapF {α : Type} (f : α → Bool) (xs : List α) : allB (xs.map fun x => PyData.bool (f x)) = some (xs.map f) := by
  have := allB_map (xs.map f)
  rw [List.map_map] at this
  exact this
theorem gAll_m {α : Type} (f : α → Bool) (xs : List α) : gAll [.list (xs.map fun x => PyData.bool (f x))] = some (.bool (xs.all f)) := by
  show (allB _).map _ = _
  rw [allB_mapF]
  show some (PyData.bool ((xs.map f).all fun b => b)) = some _
  rw [List.all_map]
  rfl
theorem gAny_m {α : Type} (f : α → Bool) (xs : List α) : gAny [.list (xs.map fun x => PyData.bool (f x))] = some (.bool (xs.any f)) := by
  show (allB _).map _ = _
  rw [allB_mapF]
  show some (PyData.bool ((xs.map f).any fun b => b)) = some _
  rw [List.any_map]
  rfl
theorem enumL_len : ∀ (xs : List PyData) (n : Nat), (enumL n xs).length = xs.length
  | [], n => rfl
  | x :: xs, n => by simp [enumL, enumL_len xs (n + 1)]
theorem rngL_len (lo : Int) (n : Nat) : (rngL lo n).length = n := by simp [rngL]
theorem rngL_mem {lo : Int} {n : Nat} {x : PyData} (h : x ∈ rngL lo n) : ∃ i : Int, x = .int i ∧ lo ≤ i ∧ i < lo + n := by
  unfold rngL at h
  obtain ⟨i, hi, rfl⟩ := List.mem_map.mp h
  exact ⟨_, rfl, by omega, by have := List.mem_range.mp hi; omega⟩
def rngI (lo : Int) (n : Nat) : List Int := (List.range n).map fun (i : Nat) => lo + (i : Int)
theorem rngL_I (lo : Int) (n : Nat) : rngL lo n = (rngI lo n).map .int := by unfold rngL rngI; rw [List.map_map]; rfl
theorem rngI_mem {lo : Int} {n : Nat} {i : Int} : i ∈ rngI lo n ↔ lo ≤ i ∧ i < lo + n := by
  unfold rngI
  rw [List.mem_map]
  constructor
  · rintro ⟨k, hk, rfl⟩
    have := List.mem_range.mp hk
    omega
  · intro h
    exact ⟨(i - lo).toNat, List.mem_range.mpr (by omega), by omega⟩
theorem rngI_succ (lo : Int) (n : Nat) : rngI lo (n + 1) = rngI lo n ++ [lo + (n : Int)] := by unfold rngI; rw [List.range_succ, List.map_append]; rfl
theorem pLc_f {α β : Type} {fi : FA} {q : TGp} {ft : FT} {fe : FE} {vs : List Nat} {π : PD} (f : α → PyData) (g : β → PyData) (xs : List α) (p : α → Bool) (k : α → β) (hi : fi π = some (xs.map f)) (hl : xs.length ≤ 1000000) (h : ∀ x ∈ xs, ∃ π1, q (f x) (wipeP π vs) = some π1 ∧ ft π1 = some (p x) ∧ (p x = true → fe π1 = some (g (k x)))) : pLc fi q ft fe vs π = some (.list (((xs.filter p).map k).map g)) := by
  have key : ∀ (xs : List α) (acc : List PyData), acc.length + xs.length ≤ 1000000 → (∀ x ∈ xs, ∃ π1, q (f x) (wipeP π vs) = some π1 ∧ ft π1 = some (p x) ∧ (p x = true → fe π1 = some (g (k x)))) → pComp q ft fe (wipeP π vs) (xs.map f) acc = some (acc ++ ((xs.filter p).map k).map g) := by
    intro xs
    induction xs with
    | nil => intro acc _ _; simp [pComp]
    | cons x xs ih =>
      intro acc hl h
      obtain ⟨π1, e1, e2, e3⟩ := h x (by simp)
      rw [List.map_cons]
      unfold pComp
      rw [e1]
      show (ft π1).bind _ = _
      rw [e2]
      show (if p x = true then _ else _) = _
      by_cases hp : p x = true
      · rw [if_pos hp, e3 hp]
        show (if acc.length < sizeLine then _ else _) = _
        rw [if_pos (list_lt (by simp at hl; omega)), ih _ (by simp at hl ⊢; omega) (fun y hy => h y (by simp [hy])), List.filter_cons_of_pos hp]
        simp
      · rw [if_neg hp, ih _ (by simp at hl ⊢; omega) (fun y hy => h y (by simp [hy])), List.filter_cons_of_neg hp]
  unfold pLc
  rw [hi]
  show (pComp q ft fe _ _ []).map _ = _
  rw [key xs [] (by simpa using hl) h]
  rfl
theorem pLcL_f {α β : Type} {fi : FA} {q : TGp} {ft : FT} {fe : FE} {vs : List Nat} {π : PD} (f : α → PyData) (g : β → PyData) (xs : List α) (p : α → Bool) (k : α → β) (hi : fi π = some (xs.map f)) (hl : xs.length ≤ 1000000) (h : ∀ x ∈ xs, ∃ π1, q (f x) (wipeP π vs) = some π1 ∧ ft π1 = some (p x) ∧ (p x = true → fe π1 = some (g (k x)))) : pLcL fi q ft fe vs π = some (((xs.filter p).map k).map g) := by
  have e := pLc_f (fi := fi) f g xs p k hi hl h
  unfold pLc at e
  unfold pLcL
  rw [hi] at e ⊢
  have e' : (pComp q ft fe (wipeP π vs) (xs.map f) []).map PyData.list = some (.list (((xs.filter p).map k).map g)) := e
  show pComp q ft fe (wipeP π vs) (xs.map f) [] = _
  cases h : pComp q ft fe (wipeP π vs) (xs.map f) [] with
  | none => rw [h] at e'; cases e'
  | some r => rw [h] at e'; cases e'; rfl
theorem pLc_fm {α β : Type} {fi : FA} {q : TGp} {fe : FE} {vs : List Nat} {π : PD} (f : α → PyData) (g : β → PyData) (xs : List α) (k : α → β) (hi : fi π = some (xs.map f)) (hl : xs.length ≤ 1000000) (h : ∀ x ∈ xs, ∃ π1, q (f x) (wipeP π vs) = some π1 ∧ fe π1 = some (g (k x))) : pLc fi q pYes fe vs π = some (.list ((xs.map k).map g)) := by
  rw [pLc_f f g xs (fun _ => true) k hi hl fun x hx => ?_]
  · rw [filter_yes]
  · obtain ⟨π1, e1, e2⟩ := h x hx
    exact ⟨π1, e1, rfl, fun _ => e2⟩
theorem pLcL_fm {α β : Type} {fi : FA} {q : TGp} {fe : FE} {vs : List Nat} {π : PD} (f : α → PyData) (g : β → PyData) (xs : List α) (k : α → β) (hi : fi π = some (xs.map f)) (hl : xs.length ≤ 1000000) (h : ∀ x ∈ xs, ∃ π1, q (f x) (wipeP π vs) = some π1 ∧ fe π1 = some (g (k x))) : pLcL fi q pYes fe vs π = some ((xs.map k).map g) := by
  rw [pLcL_f f g xs (fun _ => true) k hi hl fun x hx => ?_]
  · rw [filter_yes]
  · obtain ⟨π1, e1, e2⟩ := h x hx
    exact ⟨π1, e1, rfl, fun _ => e2⟩
theorem sortedL_pw (a : List PyData) : (sortedL a).Pairwise fun x y => PySem.W.dataLe false (fun d => d) x y = true :=
  List.pairwise_mergeSort (fun x y z h1 h2 => (PySem.W.sortLe_total (listOrd itemOrd) false PySem.W.keyToks).trans x y z h1 h2) (fun x y => by rw [Bool.or_eq_true]; exact (PySem.W.sortLe_total (listOrd itemOrd) false PySem.W.keyToks).total x y) a
theorem sortedL_perm (a : List PyData) : (sortedL a).Perm a := List.mergeSort_perm _ _
theorem sortedL_eq {a b : List PyData} (h : a.Perm b) (inj : ∀ x ∈ a, ∀ y ∈ a, PySem.W.keyToks x = PySem.W.keyToks y → x = y) : sortedL a = sortedL b := by
  refine List.Perm.eq_of_pairwise (le := fun x y => PySem.W.dataLe false (fun d => d) x y = true) (fun x y hx hy h1 h2 => ?_) (sortedL_pw a) (sortedL_pw b) (((sortedL_perm a).trans h).trans (sortedL_perm b).symm)
  have hx' : x ∈ a := (sortedL_perm a).mem_iff.mp hx
  have hy' : y ∈ a := h.mem_iff.mpr ((sortedL_perm b).mem_iff.mp hy)
  refine inj x hx' y hy' ?_
  simp only [PySem.W.dataLe, PySem.W.sortLe, cond_false, Bool.not_eq_true'] at h1 h2
  exact (listOrd itemOrd).total _ _ h2 h1
theorem sortedL_mem {a : List PyData} {x : PyData} : x ∈ sortedL a ↔ x ∈ a := (sortedL_perm a).mem_iff
theorem sortedL_len (a : List PyData) : (sortedL a).length = a.length := (sortedL_perm a).length_eq
mutual
def clean : PyData → Bool
  | .int _ => true
  | .str _ => true
  | .tuple xs => cleanAll xs
  | .none => true
  | _ => false
def cleanAll : List PyData → Bool
  | [] => true
  | x :: xs => clean x && cleanAll xs
end
mutual
theorem eqv_clean : ∀ x y : PyData, clean x = true → clean y = true → PyData.eqv x y = true → x = y
  | .none, y, _, _, h => by cases y <;> simp [PyData.eqv] at h; rfl
  | .int i, y, _, hy, h => by
    cases y <;> simp [PyData.eqv] at h
    · cases hy
    · subst h; rfl
  | .str i, y, _, _, h => by cases y <;> simp [PyData.eqv] at h; subst h; rfl
  | .tuple xs, y, hx, hy, h => by
    cases y <;> simp only [PyData.eqv] at h <;> first | cases h | skip
    rename_i ys
    simp only [clean] at hx hy
    rw [eqvAll_clean xs ys hx hy h]
  | .bool _, _, h, _, _ => by cases h
  | .list _, _, h, _, _ => by cases h
  | .dict _, _, h, _, _ => by cases h
theorem eqvAll_clean : ∀ xs ys : List PyData, cleanAll xs = true → cleanAll ys = true → PyData.eqvAll xs ys = true → xs = ys
  | [], [], _, _, _ => rfl
  | [], _ :: _, _, _, h => by simp [PyData.eqvAll] at h
  | _ :: _, [], _, _, h => by simp [PyData.eqvAll] at h
  | x :: xs, y :: ys, hx, hy, h => by
    simp only [cleanAll, Bool.and_eq_true] at hx hy
    simp only [PyData.eqvAll, Bool.and_eq_true] at h
    rw [eqv_clean x y hx.1 hy.1 h.1, eqvAll_clean xs ys hx.2 hy.2 h.2]
end
theorem cleanAll_iff : ∀ {xs : List PyData}, cleanAll xs = true ↔ ∀ x ∈ xs, clean x = true
  | [] => by simp [cleanAll]
  | x :: xs => by simp [cleanAll, cleanAll_iff (xs := xs)]
mutual
theorem eqv_refl : ∀ x : PyData, clean x = true → PyData.eqv x x = true
  | .none, _ => by simp [PyData.eqv]
  | .int i, _ => by simp [PyData.eqv]
  | .str i, _ => by simp [PyData.eqv]
  | .tuple xs, h => by simp only [PyData.eqv]; exact eqvAll_refl xs (by simpa only [clean] using h)
  | .bool _, h => by cases h
  | .list _, h => by cases h
  | .dict _, h => by cases h
theorem eqvAll_refl : ∀ xs : List PyData, cleanAll xs = true → PyData.eqvAll xs xs = true
  | [], _ => by simp [PyData.eqvAll]
  | x :: xs, h => by
    simp only [cleanAll, Bool.and_eq_true] at h
    simp only [PyData.eqvAll, Bool.and_eq_true]
    exact ⟨eqv_refl x h.1, eqvAll_refl xs h.2⟩
end
theorem eqv_iff {x y : PyData} (hx : clean x = true) (hy : clean y = true) : PyData.eqv x y = true ↔ x = y := ⟨eqv_clean x y hx hy, fun h => by subst h; exact eqv_refl x hx⟩
theorem toks_inj {x y : PyData} (hx : clean x = true) (hy : clean y = true) (h : PySem.W.semi x y = true) (e : PySem.W.keyToks x = PySem.W.keyToks y) : x = y := by
  cases q : PyData.eqv x y with
  | true => exact eqv_clean x y hx hy q
  | false =>
    have := PySem.W.toks_neS x y h q [] [.inl 0]
    rw [e, PySem.W.lex_pre] at this
    have h2 := lex_irrefl (O := itemOrd) (PySem.W.keyToks y)
    rw [← this] at h2
    cases h2
theorem semiAll_of : ∀ {xs ys : List PyData}, (∀ x ∈ xs, ∀ y ∈ ys, PySem.W.semi x y = true) → PySem.W.semiAll xs ys = true
  | [], _, _ => by simp [PySem.W.semiAll]
  | _ :: _, [], _ => by simp [PySem.W.semiAll]
  | x :: xs, y :: ys, h => by
    rw [PySem.W.semiAll]
    split
    · exact semiAll_of fun a ha b hb => h a (by simp [ha]) b (by simp [hb])
    · exact h x (by simp) y (by simp)
end DL
namespace DL
open PySem PySem.Spec L2 RZ
open PyProof.Rows hiding St

def caseD (n v k : Int) (ps : List (List Int)) (j : Bool) : PyData := .tuple [.int n, .int v, .int k, .tuple (ps.map tupI), .bool j]
def PairsOk (k v : Int) (ps : List (List Int)) : Prop := ps.length ≤ 60 ∧ ∀ p ∈ ps, ∃ a b : Int, p = [a, b] ∧ 0 ≤ a ∧ a < k ∧ 0 ≤ b ∧ b < v
def dInt : PyData → Bool
  | .int _ => true
  | _ => false
def isWithin (d : PyData) (lo hi : Int) : Bool := match d with
  | .int i => decide (lo ≤ i) && decide (i ≤ hi)
  | _ => false
abbrev Child := Option (Int × Int)
def chD : Child → PyData
  | none => .tuple []
  | some (k, p) => .tuple [.int k, .int p]
def parsD (ps : List Int) : PyData := .tuple (ps.map .int)
def srcD (ps : List Int) (c : Child) : PyData := .tuple [parsD ps, chD c]
inductive Ch where
  | par (p s : Int)
  | kid (c : Child)
deriving DecidableEq
def Ch.D : Ch → PyData
  | .par p s => .tuple [.str "parent", .int p, .int s]
  | .kid c => .tuple [.str "child", chD c]
def comD (cs : List Ch) : PyData := .tuple (cs.map Ch.D)
def Ch.go : Ch → List Int × Child → List Int × Child
  | .par p s, (ps, c) => (ps.set p.toNat s, c)
  | .kid c, (ps, _) => (ps, c)
def goes (cs : List Ch) (s : List Int × Child) : List Int × Child := cs.foldl (fun s c => c.go s) s
def sD (s : List Int × Child) : PyData := srcD s.1 s.2
def refOk (s : List Int × Child) : Bool := match s.2 with
  | none => true
  | some (_, p) => s.1.getD p.toNat (-1) != -1
structure SrcOk (n v k : Int) (s : List Int × Child) : Prop where
  len : (s.1.length : Int) = n
  st : ∀ x ∈ s.1, -1 ≤ x ∧ x < v
  ch : ∀ c p, s.2 = some (c, p) → 0 ≤ c ∧ c < k ∧ 0 ≤ p ∧ p < n
  ref : refOk s = true
structure CaseOk (n v k : Int) (ps : List (List Int)) : Prop where
  n1 : 1 ≤ n
  n3 : n ≤ 3
  v1 : 1 ≤ v
  v3 : v ≤ 3
  k1 : 1 ≤ k
  k2 : k ≤ 2
  pok : PairsOk k v ps
  pl : ps.length ≤ 9
def Ch.fits (n v k : Int) : Ch → Prop
  | .par p s => 0 ≤ p ∧ p < n ∧ -1 ≤ s ∧ s < v
  | .kid c => ∀ a p, c = some (a, p) → 0 ≤ a ∧ a < k ∧ 0 ≤ p ∧ p < n
theorem clean_ints (ps : List Int) : cleanAll (ps.map .int) = true := cleanAll_iff.mpr fun x hx => by obtain ⟨i, _, rfl⟩ := List.mem_map.mp hx; rfl
theorem clean_ch (c : Child) : clean (chD c) = true := by cases c <;> rfl
theorem clean_src (s : List Int × Child) : clean (sD s) = true := by
  unfold sD srcD parsD
  simp only [clean, cleanAll, clean_ints, clean_ch, Bool.and_self]
theorem Ch.clean (c : Ch) : DL.clean c.D = true := by
  cases c with
  | par p s => rfl
  | kid c => unfold Ch.D; simp only [DL.clean, cleanAll, clean_ch, Bool.and_self]
theorem clean_com (cs : List Ch) : clean (comD cs) = true := by
  unfold comD
  simp only [clean]
  exact cleanAll_iff.mpr fun x hx => by obtain ⟨c, _, rfl⟩ := List.mem_map.mp hx; exact c.clean
theorem chD_inj {a b : Child} (h : chD a = chD b) : a = b := by
  cases a with
  | none => cases b with
    | none => rfl
    | some y => obtain ⟨_, _⟩ := y; simp [chD] at h
  | some x =>
    obtain ⟨k, p⟩ := x
    cases b with
    | none => simp [chD] at h
    | some y => obtain ⟨k', p'⟩ := y; simp [chD] at h; obtain ⟨rfl, rfl⟩ := h; rfl
theorem Ch.D_inj {a b : Ch} (h : a.D = b.D) : a = b := by
  cases a <;> cases b <;> simp [Ch.D] at h
  · obtain ⟨rfl, rfl⟩ := h; rfl
  · rw [chD_inj h]
theorem map_inj {α β : Type} {f : α → β} (hf : ∀ a b, f a = f b → a = b) : ∀ {xs ys : List α}, xs.map f = ys.map f → xs = ys
  | [], [], _ => rfl
  | [], _ :: _, h => by simp at h
  | _ :: _, [], h => by simp at h
  | x :: xs, y :: ys, h => by
    simp only [List.map_cons, List.cons.injEq] at h
    rw [hf _ _ h.1, map_inj hf h.2]
theorem comD_inj {a b : List Ch} (h : comD a = comD b) : a = b := by
  unfold comD at h
  exact map_inj (fun _ _ => Ch.D_inj) (PyData.tuple.inj h)
theorem semi_ch (a b : Child) : PySem.W.semi (chD a) (chD b) = true := by
  cases a with
  | none => cases b <;> simp [chD, PySem.W.semi, PySem.W.semiAll]
  | some x =>
    obtain ⟨k, p⟩ := x
    cases b with
    | none => simp [chD, PySem.W.semi, PySem.W.semiAll]
    | some y =>
      obtain ⟨k', p'⟩ := y
      simp only [chD, PySem.W.semi]
      refine semiAll_of fun x hx y hy => ?_
      simp only [List.mem_cons, List.not_mem_nil, or_false] at hx hy
      rcases hx with rfl | rfl <;> rcases hy with rfl | rfl <;> rfl
theorem Ch.semi (a b : Ch) : PySem.W.semi a.D b.D = true := by
  cases a with
  | par p s => cases b with
    | par p' s' =>
      simp only [Ch.D, PySem.W.semi]
      rw [PySem.W.semiAll, if_pos (by simp [PyData.eqv])]
      refine semiAll_of fun x hx y hy => ?_
      simp only [List.mem_cons, List.not_mem_nil, or_false] at hx hy
      rcases hx with rfl | rfl <;> rcases hy with rfl | rfl <;> rfl
    | kid c =>
      simp only [Ch.D, PySem.W.semi]
      rw [PySem.W.semiAll, if_neg (by simp [PyData.eqv]; decide)]
      rfl
  | kid c => cases b with
    | par p' s' =>
      simp only [Ch.D, PySem.W.semi]
      rw [PySem.W.semiAll, if_neg (by simp [PyData.eqv]; decide)]
      rfl
    | kid c' =>
      simp only [Ch.D, PySem.W.semi]
      rw [PySem.W.semiAll, if_pos (by simp [PyData.eqv])]
      refine semiAll_of fun x hx y hy => ?_
      simp only [List.mem_cons, List.not_mem_nil, or_false] at hx hy
      subst hx hy
      exact semi_ch _ _
theorem semi_com (a b : List Ch) : PySem.W.semi (comD a) (comD b) = true := by
  unfold comD
  simp only [PySem.W.semi]
  refine semiAll_of fun x hx y hy => ?_
  obtain ⟨c, _, rfl⟩ := List.mem_map.mp hx
  obtain ⟨d, _, rfl⟩ := List.mem_map.mp hy
  exact Ch.semi c d
theorem depth_ch (c : Child) : (chD c).depth ≤ 1 := by cases c <;> simp [chD, PyData.depth, PyData.depthAll]
theorem Ch.depth (c : Ch) : c.D.depth ≤ 2 := by
  cases c with
  | par p s => simp [Ch.D, PyData.depth, PyData.depthAll]
  | kid c => have := depth_ch c; simp only [Ch.D, PyData.depth, PyData.depthAll]; omega
theorem depth_com (cs : List Ch) : (comD cs).depth ≤ 3 := by
  have : PyData.depthAll (cs.map Ch.D) ≤ 2 := depthAll_iff.mpr fun x hx => by obtain ⟨c, _, rfl⟩ := List.mem_map.mp hx; exact c.depth
  simp only [comD, PyData.depth]
  omega
theorem shaped_ch (c : Child) : SeqAt.shaped (chD c) = true := by cases c <;> rfl
theorem sh_i (i : Int) : SeqAt.shaped (.int i) = true := rfl
theorem sh_b (i : Bool) : SeqAt.shaped (.bool i) = true := rfl
theorem sh_n : SeqAt.shaped .none = true := rfl
theorem sh_t0 : SeqAt.shaped (.tuple []) = true := rfl
theorem sh_t1 (a : Int) : SeqAt.shaped (.tuple [.int a]) = true := rfl
theorem sh_t2 (a b : Int) : SeqAt.shaped (.tuple [.int a, .int b]) = true := rfl
theorem eqOk_r_t (a : PyData) (xs : List PyData) : eqOk a (.tuple xs) = (SeqAt.shaped a && SeqAt.shaped (.tuple xs)) := by cases a <;> rfl
theorem eqOk_t_r (a : PyData) (xs : List PyData) : eqOk (.tuple xs) a = (SeqAt.shaped (.tuple xs) && SeqAt.shaped a) := by cases a <;> rfl
theorem eqOk_r_ch (a : PyData) (c : Child) : eqOk a (chD c) = (SeqAt.shaped a && SeqAt.shaped (chD c)) := by cases c <;> cases a <;> rfl
theorem eqOk_ch_r (a : PyData) (c : Child) : eqOk (chD c) a = (SeqAt.shaped (chD c) && SeqAt.shaped a) := by cases c <;> cases a <;> rfl
theorem ch_nil (c : Child) : PyData.eqv (chD c) (.tuple []) = c.isNone := by cases c <;> simp [chD, PyData.eqv, PyData.eqvAll]
theorem lay_ch (c : Child) : (chD c).canLay0 = true := by cases c <;> rfl
theorem Ch.lay (c : Ch) : c.D.canLay0 = true := by
  cases c with
  | par p s => unfold Ch.D; simp only [PyData.canLay0, PyData.canLayAll0, Bool.and_true]; decide +kernel
  | kid c => unfold Ch.D; simp only [PyData.canLay0, PyData.canLayAll0, lay_ch, Bool.and_true]; decide +kernel
theorem layAll_iff : ∀ {xs : List PyData}, PyData.canLayAll0 xs = true ↔ ∀ x ∈ xs, x.canLay0 = true
  | [] => by simp [PyData.canLayAll0]
  | x :: xs => by simp [PyData.canLayAll0, layAll_iff (xs := xs)]
theorem lay_com (cs : List Ch) : (comD cs).canLay0 = true := by
  simp only [comD, PyData.canLay0]
  exact layAll_iff.mpr fun x hx => by obtain ⟨c, _, rfl⟩ := List.mem_map.mp hx; exact c.lay
theorem semiOk_coms {cs : List (List Ch)} (h : ∀ c ∈ cs, c ≠ []) : PySem.W.SemiOk (cs.map comD) where
  sm := fun d hd d' hd' => by
    obtain ⟨a, _, rfl⟩ := List.mem_map.mp hd
    obtain ⟨b, _, rfl⟩ := List.mem_map.mp hd'
    exact semi_com a b
  ne := fun d hd => by
    obtain ⟨a, ha, rfl⟩ := List.mem_map.mp hd
    cases a with
    | nil => exact absurd rfl (h _ ha)
    | cons x r => exact ⟨_, _, rfl⟩
  ty := fun x r x' r' h1 h2 => by
    obtain ⟨a, ha, e1⟩ := List.mem_map.mp h1
    obtain ⟨b, hb, e2⟩ := List.mem_map.mp h2
    cases a with
    | nil => exact absurd rfl (h _ ha)
    | cons y r =>
      cases b with
      | nil => exact absurd rfl (h _ hb)
      | cons y' r =>
        simp only [comD, List.map_cons, PyData.tuple.injEq, List.cons.injEq] at e1 e2
        rw [← e1.1, ← e2.1]
        cases y <;> cases y' <;> rfl
  ly := fun d hd => by obtain ⟨a, _, rfl⟩ := List.mem_map.mp hd; exact lay_com a
  dp := fun d hd => by obtain ⟨a, _, rfl⟩ := List.mem_map.mp hd; exact Nat.le_trans (depth_com a) (by decide)
theorem sorted_coms {a b : List (List Ch)} (h : a.Perm b) : sortedL (a.map comD) = sortedL (b.map comD) := sortedL_eq (h.map _) fun x hx y hy e => by
  obtain ⟨c, _, rfl⟩ := List.mem_map.mp hx
  obtain ⟨d, _, rfl⟩ := List.mem_map.mp hy
  exact toks_inj (clean_com c) (clean_com d) (semi_com c d) e
def parCh (v : Int) : Nat → List Int → List Ch
  | _, [] => []
  | i, b :: r => ((rngI (-1) (v + 1).toNat).filter (· != b)).map (fun s => Ch.par i s) ++ parCh v (i + 1) r
def kids (n k : Int) : List Child := none :: (rngI 0 k.toNat).flatMap fun a => (rngI 0 n.toNat).map fun p => some (a, p)
def kidCh (n k : Int) (c : Child) : List Ch := ((kids n k).filter (· != c)).map Ch.kid
def rawCom (n v k : Int) (j : Bool) (s : List Int × Child) : List (List Ch) :=
  (parCh v 0 s.1 ++ kidCh n k s.2).map (fun c => [c]) ++ if j then (parCh v 0 s.1).flatMap fun c => (kidCh n k s.2).map fun d => [c, d] else []
def allCom (n v k : Int) (j : Bool) (s : List Int × Child) : List (List Ch) := (rawCom n v k j s).filter fun c => refOk (goes c s)
theorem cutD_set {α : Type} (xs : List α) (y : α) {p : Int} (h0 : 0 ≤ p) (h1 : p < xs.length) : DL.cutD xs none (some p) ++ [y] ++ DL.cutD xs (some (p + 1)) none = xs.set p.toNat y := by
  obtain ⟨i, rfl⟩ : ∃ i : Nat, p = i := ⟨p.toNat, by omega⟩
  have e : ((i : Int) + 1) = ((i + 1 : Nat) : Int) := by omega
  rw [e, cutD_un, cutD_n, List.set_eq_take_append_cons_drop, if_pos (by omega)]
  simp
theorem cutD_len {α : Type} (xs : List α) (lo hi : Option Int) : (DL.cutD xs lo hi).length ≤ xs.length := by
  unfold DL.cutD
  simp
  omega
theorem str_cp : (("child" : Str) == ("parent" : Str)) = false := by decide +kernel
theorem str_pc : (("parent" : Str) == ("child" : Str)) = false := by decide +kernel
def Ch.inn (m : Nat) : Ch → Prop
  | .par p _ => 0 ≤ p ∧ p < m
  | .kid _ => True
theorem go_len (c : Ch) (s : List Int × Child) : (c.go s).1.length = s.1.length := by cases c <;> simp [Ch.go]
theorem goes_len (cs : List Ch) : ∀ s : List Int × Child, (goes cs s).1.length = s.1.length := by
  induction cs with
  | nil => intro s; rfl
  | cons c cs ih => intro s; show (goes cs (c.go s)).1.length = _; rw [ih, go_len]
theorem parCh_mem {v : Int} : ∀ {xs : List Int} {i : Nat} {c : Ch}, c ∈ parCh v i xs → ∃ p y, c = .par p y ∧ (i : Int) ≤ p ∧ p < i + xs.length ∧ -1 ≤ y ∧ y < v
  | [], _, _, h => by simp [parCh] at h
  | b :: r, i, c, h => by
    simp only [parCh, List.mem_append, List.mem_map, List.mem_filter] at h
    rcases h with ⟨y, ⟨hy, _⟩, rfl⟩ | h
    · obtain ⟨h1, h2⟩ := rngI_mem.mp hy
      refine ⟨i, y, rfl, by omega, by simp; omega, h1, ?_⟩
      have : ((v + 1).toNat : Int) ≤ max (v + 1) 0 := by omega
      omega
    · obtain ⟨p, y, rfl, h1, h2, h3, h4⟩ := parCh_mem h
      exact ⟨p, y, rfl, by omega, by simp at h2 ⊢; omega, h3, h4⟩
theorem kids_mem {n k : Int} {c : Child} (h : c ∈ kids n k) : ∀ a p, c = some (a, p) → 0 ≤ a ∧ a < k ∧ 0 ≤ p ∧ p < n := by
  rintro a p rfl
  simp only [kids, List.mem_cons, List.mem_flatMap, List.mem_map] at h
  rcases h with h | ⟨a', ha, p', hp, e⟩
  · cases h
  · cases e
    have h1 := rngI_mem.mp ha
    have h2 := rngI_mem.mp hp
    omega
theorem kidCh_mem {n k : Int} {c : Child} {x : Ch} (h : x ∈ kidCh n k c) : ∃ d, x = .kid d ∧ ∀ a p, d = some (a, p) → 0 ≤ a ∧ a < k ∧ 0 ≤ p ∧ p < n := by
  simp only [kidCh, List.mem_map, List.mem_filter] at h
  obtain ⟨d, ⟨hd, _⟩, rfl⟩ := h
  exact ⟨d, rfl, kids_mem hd⟩
structure ComIn (n v k : Int) (c : List Ch) : Prop where
  ne : c ≠ []
  len : c.length ≤ 2
  fits : ∀ x ∈ c, x.fits n v k
theorem raw_in {n v k : Int} {j : Bool} {s : List Int × Child} (hs : (s.1.length : Int) = n) {c : List Ch} (h : c ∈ rawCom n v k j s) : ComIn n v k c := by
  have fp : ∀ x ∈ parCh v 0 s.1, x.fits n v k := fun x hx => by
    obtain ⟨p, y, rfl, h1, h2, h3, h4⟩ := parCh_mem hx
    exact ⟨by omega, by omega, h3, h4⟩
  have fk : ∀ x ∈ kidCh n k s.2, x.fits n v k := fun x hx => by
    obtain ⟨d, rfl, h1⟩ := kidCh_mem hx
    exact h1
  simp only [rawCom, List.mem_append, List.mem_map] at h
  rcases h with ⟨x, hx, rfl⟩ | h
  · exact ⟨by simp, by simp, fun y hy => by simp only [List.mem_cons, List.not_mem_nil, or_false] at hy; subst hy; exact hx.elim (fp _) (fk _)⟩
  · split at h
    · simp only [List.mem_flatMap, List.mem_map] at h
      obtain ⟨x, hx, y, hy, rfl⟩ := h
      exact ⟨by simp, by simp, fun z hz => by
        simp only [List.mem_cons, List.not_mem_nil, or_false] at hz
        rcases hz with rfl | rfl
        · exact fp _ hx
        · exact fk _ hy⟩
    · cases h
theorem fits_inn {n v k : Int} {m : Nat} (hm : (m : Int) = n) {c : Ch} (h : c.fits n v k) : c.inn m := by
  cases c with
  | par p y => exact ⟨h.1, by have := h.2.1; omega⟩
  | kid c => trivial
structure Mid (n v k : Int) (s : List Int × Child) : Prop where
  len : (s.1.length : Int) = n
  st : ∀ x ∈ s.1, -1 ≤ x ∧ x < v
  ch : ∀ c p, s.2 = some (c, p) → 0 ≤ c ∧ c < k ∧ 0 ≤ p ∧ p < n
theorem SrcOk.mid {n v k : Int} {s : List Int × Child} (h : SrcOk n v k s) : Mid n v k s := ⟨h.len, h.st, h.ch⟩
theorem Mid.go {n v k : Int} {s : List Int × Child} (h : Mid n v k s) {c : Ch} (hc : c.fits n v k) : Mid n v k (c.go s) := by
  cases c with
  | par p y =>
    refine ⟨by rw [go_len]; exact h.len, fun x hx => ?_, h.ch⟩
    rcases List.mem_or_eq_of_mem_set hx with hx | rfl
    · exact h.st x hx
    · exact ⟨hc.2.2.1, hc.2.2.2⟩
  | kid c => exact ⟨h.len, h.st, hc⟩
theorem Mid.goes {n v k : Int} : ∀ {cs : List Ch} {s : List Int × Child}, Mid n v k s → (∀ x ∈ cs, x.fits n v k) → Mid n v k (DL.goes cs s)
  | [], _, h, _ => h
  | c :: cs, s, h, hc => Mid.goes (s := c.go s) (h.go (hc c (by simp))) fun x hx => hc x (by simp [hx])
theorem allCom_in {n v k : Int} {j : Bool} {s : List Int × Child} (hs : (s.1.length : Int) = n) {c : List Ch} (h : c ∈ allCom n v k j s) : ComIn n v k c := raw_in hs (List.mem_filter.mp h).1
theorem allCom_ok {n v k : Int} {j : Bool} {s : List Int × Child} (hs : SrcOk n v k s) {c : List Ch} (h : c ∈ allCom n v k j s) : SrcOk n v k (goes c s) := by
  have m := hs.mid.goes (allCom_in hs.len h).fits
  exact ⟨m.len, m.st, m.ch, (List.mem_filter.mp h).2⟩
end DL
namespace DL
open PySem PySem.Spec L2 RZ
open PyProof.Rows hiding St

theorem log_small {i : Int} (h0 : -1000 ≤ i) (h1 : i ≤ 1000) : i.natAbs.log2 < 10 := by
  by_cases h : i.natAbs = 0
  · rw [h]; decide
  · exact (Nat.log2_lt h).mpr (by omega)
theorem nice_small {i : Int} (h0 : -1000 ≤ i) (h1 : i ≤ 1000) {W D : Nat} (hw : 14 ≤ W := by omega) : Nice W D 10 (.int i) := (nice_int (log_small h0 h1) W D (by omega))
theorem niceL_map {α : Type} {W D B : Nat} (f : α → PyData) : ∀ {xs : List α}, (∀ x ∈ xs, Nice W D B (f x)) → NiceL ((W + 2) * xs.length) D B (xs.map f)
  | [], _ => niceL_nil
  | x :: xs, h => by
    have := niceL_cons (h x (by simp)) (niceL_map f (xs := xs) fun y hy => h y (by simp [hy]))
    rw [List.map_cons]
    exact this.mono (by rw [List.length_cons, Nat.mul_succ]; omega)
theorem niceL_mono_len {α : Type} {W D B m : Nat} (f : α → PyData) {xs : List α} (h : ∀ x ∈ xs, Nice W D B (f x)) (hm : xs.length ≤ m) : NiceL ((W + 2) * m) D B (xs.map f) := (niceL_map f h).mono (Nat.mul_le_mul_left _ hm)
theorem nice_tup2 {W V D B : Nat} {x y : PyData} (h : Nice W D B x) (t : Nice V D B y) : Nice (W + V + 7) (D + 1) B (.tuple [x, y]) := (nice_tuple (niceL_cons h (niceL_cons t (niceL_nil (W := 0))))).mono (by omega)
theorem nice_strp {W D : Nat} (hw : 10 ≤ W := by omega) : Nice W D 10 (.str "parent") := (nice_mk (W := 10) (D := 0) (B := 10) (by decide +kernel)).mono
theorem nice_strc {W D : Nat} (hw : 10 ≤ W := by omega) : Nice W D 10 (.str "child") := (nice_mk (W := 10) (D := 0) (B := 10) (by decide +kernel)).mono
def ChSmall : Child → Prop
  | none => True
  | some (a, p) => 0 ≤ a ∧ a ≤ 100 ∧ 0 ≤ p ∧ p ≤ 100
theorem nice_chd {c : Child} (h : ChSmall c) : Nice 40 1 10 (chD c) := by
  cases c with
  | none => exact (nice_tuple (W := 0) (D := 0) (niceL_nil (B := 10))).mono
  | some x =>
    obtain ⟨a, p⟩ := x
    obtain ⟨h0, h1, h2, h3⟩ := h
    exact (nice_tup2 (W := 14) (V := 14) (D := 0) (nice_small (by omega) (by omega)) (nice_small (by omega) (by omega))).mono
theorem Mid.small {n v k : Int} {s : List Int × Child} (h : Mid n v k s) (hn : n ≤ 3) (hv : v ≤ 3) (hk : k ≤ 2) : ChSmall s.2 := by
  cases e : s.2 with
  | none => trivial
  | some x =>
    obtain ⟨a, p⟩ := x
    have := h.ch a p e
    show 0 ≤ a ∧ a ≤ 100 ∧ 0 ≤ p ∧ p ≤ 100
    omega
theorem nice_pars {xs : List Int} (h : ∀ x ∈ xs, -1 ≤ x ∧ x ≤ 100) (hl : xs.length ≤ 3) : Nice 60 1 10 (parsD xs) :=
  (nice_tuple (niceL_mono_len (W := 14) (D := 0) PyData.int (fun x hx => nice_small (by have := h x hx; omega) (by have := h x hx; omega)) hl)).mono
theorem nice_srcM {n v k : Int} {s : List Int × Child} (h : Mid n v k s) (hn : n ≤ 3) (hv : v ≤ 3) (hk : k ≤ 2) : Nice 110 2 10 (sD s) :=
  (nice_tup2 (nice_pars (fun x hx => by have := h.st x hx; omega) (by have := h.len; omega)) (nice_chd (h.small hn hv hk))).mono
theorem nice_caseD {n v k : Int} {ps : List (List Int)} {j : Bool} (h : CaseOk n v k ps) : Nice 500 3 10 (caseD n v k ps j) := by
  have n1 := h.n1; have n3 := h.n3; have v1 := h.v1; have v3 := h.v3; have k1 := h.k1; have k2 := h.k2
  have hp : NiceL ((40 + 2) * 9) 1 10 (ps.map tupI) := niceL_mono_len tupI (fun p hp => by
    obtain ⟨a, b, rfl, h1, h2, h3, h4⟩ := h.pok.2 p hp
    exact (nice_tup2 (W := 14) (V := 14) (D := 0) (nice_small (by omega) (by omega)) (nice_small (by omega) (by omega))).mono) h.pl
  have ht := (nice_tuple hp)
  unfold caseD
  exact (nice_tuple (niceL_cons (W := 14) (D := 2) (B := 10) (nice_small (by omega) (by omega)) (niceL_cons (W := 14) (nice_small (by omega) (by omega)) (niceL_cons (W := 14) (nice_small (by omega) (by omega)) (niceL_cons (ht.mono (W' := 400) (D' := 2)) (niceL_cons (nice_bool (W := 5)) (niceL_nil (W := 0)))))))).mono
theorem nice_Ch {n v k : Int} {c : Ch} (h : c.fits n v k) (hn : n ≤ 3) (hv : v ≤ 3) (hk : k ≤ 2) : Nice 70 2 10 c.D := by
  cases c with
  | par p y =>
    obtain ⟨h1, h2, h3, h4⟩ := h
    unfold Ch.D
    exact (nice_tuple (niceL_cons (W := 10) (D := 0) nice_strp (niceL_cons (W := 14) (nice_small (by omega) (by omega)) (niceL_cons (W := 14) (nice_small (by omega) (by omega)) (niceL_nil (W := 0)))))).mono
  | kid c =>
    unfold Ch.D
    have hs : ChSmall c := by
      cases c with
      | none => trivial
      | some x =>
        obtain ⟨a, p⟩ := x
        have := h a p rfl
        show 0 ≤ a ∧ a ≤ 100 ∧ 0 ≤ p ∧ p ≤ 100
        omega
    exact (nice_tup2 (W := 10) nice_strc (nice_chd hs)).mono
theorem nice_com {n v k : Int} {c : List Ch} (h : ComIn n v k c) (hn : n ≤ 3) (hv : v ≤ 3) (hk : k ≤ 2) : Nice 150 3 10 (comD c) :=
  (nice_tuple (niceL_mono_len (W := 70) (D := 2) Ch.D (fun x hx => nice_Ch (h.fits x hx) hn hv hk) h.len)).mono
theorem nice_coms {n v k : Int} {cs : List (List Ch)} {m : Nat} (h : ∀ c ∈ cs, ComIn n v k c) (hm : cs.length ≤ m) (hn : n ≤ 3) (hv : v ≤ 3) (hk : k ≤ 2) : NiceL (152 * m) 3 10 (sortedL (cs.map comD)) :=
  (niceL_mono_len (W := 150) (D := 3) comD (fun c hc => nice_com (h c hc) hn hv hk) hm).perm (sortedL_perm _)
mutual
theorem noDict_clean : ∀ x : PyData, clean x = true → noDict x = true
  | .none, _ => rfl
  | .int _, _ => rfl
  | .str _, _ => rfl
  | .tuple xs, h => by simp only [noDict]; exact noDictAll_clean xs (by simpa only [clean] using h)
  | .bool _, _ => rfl
  | .list _, h => by cases h
  | .dict _, h => by cases h
theorem noDictAll_clean : ∀ xs : List PyData, cleanAll xs = true → noDictAll xs = true
  | [], _ => rfl
  | x :: xs, h => by
    simp only [cleanAll, Bool.and_eq_true] at h
    simp only [noDictAll, Bool.and_eq_true]
    exact ⟨noDict_clean x h.1, noDictAll_clean xs h.2⟩
end
theorem noDictAll_iff : ∀ {xs : List PyData}, noDictAll xs = true ↔ ∀ x ∈ xs, noDict x = true
  | [] => by simp [noDictAll]
  | x :: xs => by simp [noDictAll, noDictAll_iff (xs := xs)]
theorem len_wtAll : ∀ xs : List PyData, 2 * xs.length ≤ wtAll xs
  | [] => by simp
  | x :: xs => by have := len_wtAll xs; simp only [wtAll, List.length_cons]; omega
end DL
namespace DL
open PySem PySem.Spec L2 RZ
open PyProof.Rows hiding St
def gZipX : List PyData → Option (List PyData)
  | [.tuple xs, .list ys] => if xs.length = ys.length then some (zipL xs ys) else none
  | [.list xs, .list ys] => if xs.length = ys.length then some (zipL xs ys) else none
  | [.tuple xs, .tuple ys] => if xs.length = ys.length then some (zipL xs ys) else none
  | [.list xs, .tuple ys] => if xs.length = ys.length then some (zipL xs ys) else none
  | _ => none
theorem gZipX_c1 {xs ys : List PyData} (h : xs.length = ys.length) : gZipX [.tuple xs, .list ys] = some (zipL xs ys) := if_pos h
theorem gZipX_c2 {xs ys : List PyData} (h : xs.length = ys.length) : gZipX [.list xs, .list ys] = some (zipL xs ys) := if_pos h
theorem gZipX_c3 {xs ys : List PyData} (h : xs.length = ys.length) : gZipX [.tuple xs, .tuple ys] = some (zipL xs ys) := if_pos h
theorem gZipX_c4 {xs ys : List PyData} (h : xs.length = ys.length) : gZipX [.list xs, .tuple ys] = some (zipL xs ys) := if_pos h
section
variable {L : Nat} {mu : List Nat} {wr : WA} {ur : UA} {fr : FA}
theorem si_zipX (hr : SimA L mu true wr ur) : SimI L mu (srcZx wr) (uSrc gZipX ur) := si_src (rd := zipX2) (fun xs ys M Q h q => by
    unfold gZipX at h
    split at h
    · split at h
      · rename_i hl
        cases h
        refine ⟨hl, ?_⟩
        rw [zipD_L]
        exact q
      · cases h
    · split at h
      · rename_i hl
        cases h
        refine ⟨hl, ?_⟩
        rw [zipD_L]
        exact q
      · cases h
    · split at h
      · rename_i hl
        cases h
        refine ⟨hl, ?_⟩
        rw [zipD_L]
        exact q
      · cases h
    · split at h
      · rename_i hl
        cases h
        refine ⟨hl, ?_⟩
        rw [zipD_L]
        exact q
      · cases h
    · cases h) hr
theorem spi_zipX (hr : SimPA L mu true wr fr) : SimPI L mu (srcZx wr) (pSrc gZipX fr) := (si_zipX hr).mono embI_src
end
end DL
namespace DL
open PySem PySem.Spec L2 RZ
open PyProof.Rows hiding St
def chIn (n k : Int) : Child → Bool
  | none => true
  | some (a, p) => decide (0 ≤ a) && decide (a ≤ k - 1) && (decide (0 ≤ p) && decide (p ≤ n - 1))
def statesIn (n v k : Int) (s : List Int × Child) : Bool := s.1.length == n && s.1.all (fun x => decide (-1 ≤ x) && decide (x ≤ v - 1)) && chIn n k s.2
theorem refOk_ix {xs : List Int} {a p : Int} (h0 : 0 ≤ p) (h1 : p < xs.length) : L2.atI (xs.map PyData.int) p = some (.int (xs.getD p.toNat (-1))) := by
  rw [atI_map, atI_nn h0 h1]
  have : p.toNat < xs.length := by omega
  simp [this]
theorem parCh_len (v : Int) (hv : v ≤ 3) : ∀ (xs : List Int) (i : Nat), (parCh v i xs).length ≤ 4 * xs.length
  | [], _ => by simp [parCh]
  | b :: r, i => by
    have := parCh_len v hv r (i + 1)
    have h2 : ((rngI (-1) (v + 1).toNat).filter (· != b)).length ≤ (rngI (-1) (v + 1).toNat).length := List.length_filter_le _ _
    have h3 : (rngI (-1) (v + 1).toNat).length ≤ 4 := by simp [rngI]; omega
    simp only [parCh, List.length_append, List.length_map, List.length_cons]
    omega
theorem kids_len (n k : Int) (hn : n ≤ 3) (hk : k ≤ 2) : (kids n k).length ≤ 7 := by
  unfold kids
  have h1 : ∀ l : List Int, (l.flatMap fun a => (rngI 0 n.toNat).map fun p => (some (a, p) : Child)).length = l.length * n.toNat := by
    intro l
    induction l with
    | nil => simp
    | cons a l ih => rw [List.flatMap_cons, List.length_append, ih]; simp [rngI, Nat.succ_mul]; omega
  rw [List.length_cons, h1]
  have h2 : (rngI 0 k.toNat).length = k.toNat := by simp [rngI]
  rw [h2]
  have a1 : k.toNat * n.toNat ≤ 2 * 3 := Nat.mul_le_mul (by omega) (by omega)
  omega
theorem map_app {α β : Type} (f : α → β) (a b : List α) : a.map f ++ b.map f = (a ++ b).map f := (List.map_append).symm
theorem raw_len (n v k : Int) (j : Bool) (s : List Int × Child) (hs : (s.1.length : Int) = n) (hn : n ≤ 3) (hv : v ≤ 3) (hk : k ≤ 2) : (parCh v 0 s.1).length ≤ 12 ∧ (kidCh n k s.2).length ≤ 7 ∧ (rawCom n v k j s).length ≤ 200 := by
  have h1 := parCh_len v hv s.1 0
  have h2 : (kidCh n k s.2).length ≤ 7 := by
    unfold kidCh
    rw [List.length_map]
    exact Nat.le_trans (List.length_filter_le _ _) (kids_len n k hn hk)
  refine ⟨by omega, h2, ?_⟩
  have h3 : ∀ l : List Ch, (l.flatMap fun c => (kidCh n k s.2).map fun d => [c, d]).length = l.length * (kidCh n k s.2).length := by
    intro l
    induction l with
    | nil => simp
    | cons a l ih => rw [List.flatMap_cons, List.length_append, ih, List.length_map, List.length_cons, Nat.succ_mul]; omega
  unfold rawCom
  rw [List.length_append, List.length_map, List.length_append]
  split
  · rw [h3]
    have : (parCh v 0 s.1).length * (kidCh n k s.2).length ≤ 12 * 7 := Nat.mul_le_mul (by omega) h2
    omega
  · simp; omega
theorem seq_assoc (A B C D : FS) : pSeq A (pSeq B (pSeq C D)) = pSeq (pSeq A (pSeq B C)) D := by
  funext π
  unfold pSeq
  cases h : A π with
  | none => rfl
  | some o =>
    cases o with
    | nx π1 =>
      show ((B π1).bind _) = ((B π1).bind _).bind _
      cases h2 : B π1 with
      | none => rfl
      | some o2 => cases o2 <;> rfl
    | _ => rfl
theorem statesIn_mid {n v k : Int} {s : List Int × Child} (h : Mid n v k s) : statesIn n v k s = true := by
  unfold statesIn
  rw [Bool.and_eq_true, Bool.and_eq_true]
  refine ⟨⟨by simpa using h.len, List.all_eq_true.mpr fun x hx => ?_⟩, ?_⟩
  · have := h.st x hx
    simp only [Bool.and_eq_true, decide_eq_true_eq]
    omega
  · unfold chIn
    split
    · rfl
    · rename_i a p e
      have := h.ch a p e
      simp only [Bool.and_eq_true, decide_eq_true_eq]
      omega
def lkids (k : Int) (c : Child) (i : Nat) : List Child := (if c = none then [] else [none]) ++ (rngI 0 i).flatMap fun p => ((rngI 0 k.toNat).filter fun a => some (a, p) != c).map fun a => some (a, p)
theorem filter_flatMap' {α β : Type} (f : α → List β) (p : β → Bool) : ∀ l : List α, (l.flatMap f).filter p = l.flatMap fun a => (f a).filter p
  | [] => rfl
  | a :: l => by rw [List.flatMap_cons, List.flatMap_cons, List.filter_append, filter_flatMap' f p l]
theorem lkids_eq (n k : Int) (c : Child) : lkids k c n.toNat = ((none : Child) :: (rngI 0 n.toNat).flatMap fun p => (rngI 0 k.toNat).map fun a => some (a, p)).filter (· != c) := by
  have e : (((rngI 0 n.toNat).flatMap fun p => (rngI 0 k.toNat).map fun a => (some (a, p) : Child)).filter (· != c)) = (rngI 0 n.toNat).flatMap fun p => ((rngI 0 k.toNat).filter fun a => some (a, p) != c).map fun a => some (a, p) := by
    rw [filter_flatMap']
    congr 1
    funext p
    rw [List.filter_map]
    rfl
  unfold lkids
  rw [List.filter_cons, e]
  cases c with
  | none => rfl
  | some x => rfl
theorem kids_swap (n k : Int) (hn : 1 ≤ n) (hn3 : n ≤ 3) (hk : 1 ≤ k) (hk2 : k ≤ 2) : ((none : Child) :: (rngI 0 n.toNat).flatMap fun p => (rngI 0 k.toNat).map fun a => some (a, p)).Perm (kids n k) := by
  have h1 : n = 1 ∨ n = 2 ∨ n = 3 := by omega
  have h2 : k = 1 ∨ k = 2 := by omega
  rcases h1 with rfl | rfl | rfl <;> rcases h2 with rfl | rfl <;> decide
def lraw (n v k : Int) (j : Bool) (s : List Int × Child) : List (List Ch) :=
  (parCh v 0 s.1 ++ (lkids k s.2 n.toNat).map Ch.kid).map (fun c => [c]) ++ if j then (parCh v 0 s.1).flatMap fun c => ((lkids k s.2 n.toNat).map Ch.kid).map fun d => [c, d] else []
theorem flatMap_perm {α β : Type} {f g : α → List β} : ∀ l : List α, (∀ a, (f a).Perm (g a)) → (l.flatMap f).Perm (l.flatMap g)
  | [], _ => .refl _
  | a :: l, h => by rw [List.flatMap_cons, List.flatMap_cons]; exact (h a).append (flatMap_perm l h)
theorem lraw_perm {n v k : Int} {ps : List (List Int)} {j : Bool} {s : List Int × Child} (hc : CaseOk n v k ps) : (lraw n v k j s).Perm (rawCom n v k j s) := by
  have h : ((lkids k s.2 n.toNat).map Ch.kid).Perm (kidCh n k s.2) := by
    unfold kidCh
    rw [lkids_eq]
    exact ((kids_swap n k hc.n1 hc.n3 hc.k1 hc.k2).filter _).map _
  unfold lraw rawCom
  refine List.Perm.append ((List.Perm.append_left _ h).map _) ?_
  split
  · exact flatMap_perm _ fun c => h.map _
  · exact .refl _
theorem allCom_ne {n v k : Int} {ps : List (List Int)} {j : Bool} {s : List Int × Child} (hc : CaseOk n v k ps) (hs : SrcOk n v k s) : allCom n v k j s ≠ [] := by
  have h : ∃ c, c ∈ allCom n v k j s := by
    cases e : s.2 with
    | some x =>
      refine ⟨[.kid none], List.mem_filter.mpr ⟨?_, rfl⟩⟩
      unfold rawCom
      refine List.mem_append_left _ (List.mem_map.mpr ⟨.kid none, List.mem_append_right _ ?_, rfl⟩)
      unfold kidCh
      refine List.mem_map.mpr ⟨none, List.mem_filter.mpr ⟨by unfold kids; simp, by rw [e]; rfl⟩, rfl⟩
    | none =>
      have hl := hs.len
      have n1 := hc.n1
      have v1 := hc.v1
      cases e2 : s.1 with
      | nil => rw [e2] at hl; simp at hl; omega
      | cons b r =>
        have hy : ∃ y, y ∈ rngI (-1) (v + 1).toNat ∧ y ≠ b := by
          by_cases hb : b = -1
          · exact ⟨0, rngI_mem.mpr (by omega), by omega⟩
          · exact ⟨-1, rngI_mem.mpr (by omega), fun h => hb h.symm⟩
        obtain ⟨y, hy, hne⟩ := hy
        refine ⟨[.par 0 y], List.mem_filter.mpr ⟨?_, ?_⟩⟩
        · unfold rawCom
          refine List.mem_append_left _ (List.mem_map.mpr ⟨.par 0 y, List.mem_append_left _ ?_, rfl⟩)
          rw [e2]
          unfold parCh
          refine List.mem_append_left _ (List.mem_map.mpr ⟨y, List.mem_filter.mpr ⟨hy, by simpa using hne⟩, rfl⟩)
        · show refOk (Ch.go (.par 0 y) s) = true
          obtain ⟨xs, c⟩ := s
          simp only at e
          subst e
          rfl
  obtain ⟨c, h⟩ := h
  intro h2
  rw [h2] at h
  cases h
theorem allCom_len {n v k : Int} {ps : List (List Int)} {j : Bool} {s : List Int × Child} (hc : CaseOk n v k ps) (hs : SrcOk n v k s) : (allCom n v k j s).length ≤ 200 := Nat.le_trans (List.length_filter_le _ _) (raw_len n v k j s hs.len hc.n3 hc.v3 hc.k2).2.2
theorem src0 {n v k : Int} {ps : List (List Int)} (hc : CaseOk n v k ps) : SrcOk n v k (List.replicate n.toNat (-1), none) := ⟨by have := hc.n1; simp; omega, fun x hx => by have := List.eq_of_mem_replicate hx; have := hc.v1; omega, fun _ _ h => (by cases h), rfl⟩
end DL
namespace DL
open PySem PySem.Spec L2 RZ
open PyProof.Rows hiding St
def pV2 (ps : List (List Int)) (i : Int) : Bool := ps.any fun p => p.getD 1 0 == i
def pP2 (ps : List (List Int)) (a i : Int) : Bool := ps.any fun p => p == [a, i]
def pCh (ps : List (List Int)) (s : List Int × Child) : Bool := match s.2 with
  | none => false
  | some (a, p) => pP2 ps a (s.1.getD p.toNat (-1))
theorem lay_tupI (p : List Int) : (tupI p).canLay0 = true := by
  simp only [tupI, PyData.canLay0]
  exact layAll_iff.mpr fun x hx => by obtain ⟨i, _, rfl⟩ := List.mem_map.mp hx; rfl
theorem depth_tupI (p : List Int) : (tupI p).depth ≤ 1 := by
  have : PyData.depthAll (p.map PyData.int) ≤ 0 := depthAll_iff.mpr fun x hx => by obtain ⟨c, _, rfl⟩ := List.mem_map.mp hx; exact Nat.le_refl 0
  simp only [tupI, PyData.depth]
  omega
theorem shaped_of {d : PyData} (h : d.canLay0 = true) (h2 : d.depth ≤ 64) : SeqAt.shaped d = true := by
  unfold SeqAt.shaped
  rw [h, decide_eq_true h2]
  rfl
theorem lay_tup {xs : List PyData} (h : ∀ x ∈ xs, x.canLay0 = true) : (PyData.tuple xs).canLay0 = true := by
  simp only [PyData.canLay0]
  exact layAll_iff.mpr h
theorem depth_tup {xs : List PyData} {m : Nat} (h : ∀ x ∈ xs, x.depth ≤ m) : (PyData.tuple xs).depth ≤ m + 1 := by
  have := depthAll_iff.mpr h
  simp only [PyData.depth]
  omega
theorem shaped_tupI (p : List Int) : SeqAt.shaped (tupI p) = true := shaped_of (lay_tupI p) (Nat.le_trans (depth_tupI p) (by decide))
theorem shaped_tupIs (ps : List (List Int)) : SeqAt.shaped (.tuple (ps.map tupI)) = true :=
  shaped_of (lay_tup fun x hx => by obtain ⟨p, _, rfl⟩ := List.mem_map.mp hx; exact lay_tupI p)
    (Nat.le_trans (depth_tup (m := 1) fun x hx => by obtain ⟨p, _, rfl⟩ := List.mem_map.mp hx; exact depth_tupI p) (by decide))
theorem clean_tupI (p : List Int) : clean (tupI p) = true := clean_ints p
theorem tupI_inj {a b : List Int} (h : tupI a = tupI b) : a = b := map_inj (fun _ _ h => PyData.int.inj h) (PyData.tuple.inj h)
theorem pP2_any (ps : List (List Int)) (a i : Int) : (ps.any fun x => PyData.eqv (tupI x) (.tuple [.int a, .int i])) = pP2 ps a i := by
  unfold pP2
  congr 1
  funext p
  show PyData.eqv (tupI p) (tupI [a, i]) = _
  cases e : PyData.eqv (tupI p) (tupI [a, i]) with
  | true => rw [tupI_inj (eqv_clean _ _ (clean_tupI _) (clean_tupI _) e)]; simp
  | false =>
    have : p ≠ [a, i] := by rintro rfl; rw [eqv_refl _ (clean_tupI _)] at e; cases e
    simpa using this
theorem s_ae : (("all" : Str) == ("either" : Str)) = false := by decide +kernel
theorem s_an : (("all" : Str) == ("now" : Str)) = false := by decide +kernel
theorem s_ea : (("either" : Str) == ("all" : Str)) = false := by decide +kernel
theorem s_en : (("either" : Str) == ("now" : Str)) = false := by decide +kernel
theorem s_na : (("now" : Str) == ("all" : Str)) = false := by decide +kernel
theorem s_ne : (("now" : Str) == ("either" : Str)) = false := by decide +kernel
theorem s_vc : (("never" : Str) == ("cut" : Str)) = false := by decide +kernel
theorem s_vk : (("never" : Str) == ("kept" : Str)) = false := by decide +kernel
theorem s_cv : (("cut" : Str) == ("never" : Str)) = false := by decide +kernel
theorem s_ck : (("cut" : Str) == ("kept" : Str)) = false := by decide +kernel
theorem s_kv : (("kept" : Str) == ("never" : Str)) = false := by decide +kernel
theorem s_kc : (("kept" : Str) == ("cut" : Str)) = false := by decide +kernel
inductive Sd where
  | all | either | now
deriving DecidableEq
def Sd.D : Sd → PyData
  | .all => .str "all"
  | .either => .str "either"
  | .now => .str "now"
inductive An where
  | never | cut | kept
deriving DecidableEq
def An.D : An → PyData
  | .never => .str "never"
  | .cut => .str "cut"
  | .kept => .str "kept"
structure Plan where
  lanes : Int
  late : Int
  ch : Sd
  pa : Sd
  tv : Bool
  tc : Bool
  la : Bool
  an : An
deriving DecidableEq
def Plan.D (p : Plan) : PyData := .tuple [.int p.lanes, .int p.late, p.ch.D, p.pa.D, .bool p.tv, .bool p.tc, .bool p.la, p.an.D]
theorem ix_s0 (s : List Int × Child) : gIx (sD s) (.int 0) = some (parsD s.1) := rfl
theorem ix_s1 (s : List Int × Child) : gIx (sD s) (.int 1) = some (chD s.2) := rfl
theorem ix_c0 {n v k : Int} {ps : List (List Int)} {j : Bool} : gIx (caseD n v k ps j) (.int 0) = some (.int n) := rfl
theorem ix_c1 {n v k : Int} {ps : List (List Int)} {j : Bool} : gIx (caseD n v k ps j) (.int 1) = some (.int v) := rfl
theorem ix_c2 {n v k : Int} {ps : List (List Int)} {j : Bool} : gIx (caseD n v k ps j) (.int 2) = some (.int k) := rfl
theorem ix_c3 {n v k : Int} {ps : List (List Int)} {j : Bool} : gIx (caseD n v k ps j) (.int 3) = some (.tuple (ps.map tupI)) := rfl
theorem ix_c4 {n v k : Int} {ps : List (List Int)} {j : Bool} : gIx (caseD n v k ps j) (.int 4) = some (.bool j) := rfl
theorem ix_p0 (p : Plan) : gIx p.D (.int 0) = some (.int p.lanes) := rfl
theorem ix_p1 (p : Plan) : gIx p.D (.int 1) = some (.int p.late) := rfl
theorem ix_p2 (p : Plan) : gIx p.D (.int 2) = some p.ch.D := rfl
theorem ix_p3 (p : Plan) : gIx p.D (.int 3) = some p.pa.D := rfl
theorem ix_p4 (p : Plan) : gIx p.D (.int 4) = some (.bool p.tv) := rfl
theorem ix_p5 (p : Plan) : gIx p.D (.int 5) = some (.bool p.tc) := rfl
theorem ix_p6 (p : Plan) : gIx p.D (.int 6) = some (.bool p.la) := rfl
theorem ix_p7 (p : Plan) : gIx p.D (.int 7) = some p.an.D := rfl
structure PlanOk (p : Plan) : Prop where
  l1 : 1 ≤ p.lanes
  l2 : p.lanes ≤ 2
  a1 : 1 ≤ p.late
  a2 : p.late ≤ 2
def Sd.goes : Sd → Bool → Bool → Bool
  | .all, _, _ => true
  | .either, b, a => a || b
  | .now, _, a => a
inductive En where
  | par (p s : Int) (t : Option Int)
  | kid (c : Child) (v : Int)
deriving DecidableEq
def En.D : En → PyData
  | .par p s none => .tuple [.str "parent", .int p, .int s, .tuple []]
  | .par p s (some k) => .tuple [.str "parent", .int p, .int s, .tuple [.int k]]
  | .kid c v => .tuple [.str "child", chD c, .int v]
def tldV (pl : Plan) (s' : List Int × Child) : Child → Int
  | none => -1
  | some (_, p) => if pl.tv then s'.1.getD p.toNat (-1) else -1
def tldC (pl : Plan) (s' : List Int × Child) (p : Int) : Option Int := match s'.2 with
  | none => none
  | some (a, q) => if pl.tc = true ∧ q = p then some a else none
def enOf (pl : Plan) (s' : List Int × Child) : Ch → En
  | .kid c => .kid c (tldV pl s' c)
  | .par p y => .par p y (tldC pl s' p)
def enGo (ps : List (List Int)) (pl : Plan) (s s' : List Int × Child) : Ch → Bool
  | .kid _ => pl.ch.goes (pCh ps s) (pCh ps s')
  | .par p y => pl.pa.goes (pV2 ps (s.1.getD p.toNat (-1))) (pV2 ps y)
def sentE (ps : List (List Int)) (pl : Plan) (s : List Int × Child) (cs : List Ch) : List En :=
  (cs.filter (enGo ps pl s (goes cs s))).map (enOf pl (goes cs s))
def Ch.isPar : Ch → Bool
  | .par _ _ => true
  | .kid _ => false
def En.isPar : En → Bool
  | .par _ _ _ => true
  | .kid _ _ => false
def wdS (b : Bool) : Str := if b then "parent" else "child"
def wd (b : Bool) : PyData := .str (wdS b)
theorem wd_t : wd true = .str "parent" := rfl
theorem wd_f : wd false = .str "child" := rfl
theorem ix_ch0 (c : Ch) : gIx c.D (.int 0) = some (wd c.isPar) := by cases c <;> rfl
theorem ix_en0 (e : En) : gIx e.D (.int 0) = some (wd e.isPar) := by
  cases e with
  | par p s t => cases t <;> rfl
  | kid c v => rfl
theorem wdS_eq (a b : Bool) : (wdS a == wdS b) = (a == b) := by cases a <;> cases b <;> simp [wdS, str_pc, str_cp]
theorem wd_eq (a b : Bool) : gEq (wd a) (wd b) = some (.bool (a == b)) := by
  unfold gEq wd
  rw [eqOk_str, eqv_str, wdS_eq]
  rfl
theorem enOf_par (pl : Plan) (s' : List Int × Child) (c : Ch) : (enOf pl s' c).isPar = c.isPar := by cases c <;> rfl
def msgs (ps : List (List Int)) (pl : Plan) (s : List Int × Child) (cs : List Ch) : List (Option (List En)) :=
  if pl.lanes = 1 then [some (sentE ps pl s cs)] else
  [if cs.any (fun c => c.isPar == true) then some ((sentE ps pl s cs).filter fun e => e.isPar == true) else none,
   if cs.any (fun c => c.isPar == false) then some ((sentE ps pl s cs).filter fun e => e.isPar == false) else none]
def msgD : Option (List En) → PyData
  | none => .none
  | some es => .tuple (es.map En.D)
def msgsD (ms : List (Option (List En))) : PyData := .tuple (ms.map msgD)
theorem clean_en (e : En) : clean e.D = true := by
  cases e with
  | par p s t => cases t <;> rfl
  | kid c v => simp only [En.D, clean, cleanAll, clean_ch, Bool.and_self]
theorem clean_msg (m : Option (List En)) : clean (msgD m) = true := by
  cases m with
  | none => rfl
  | some es => simp only [msgD, clean]; exact cleanAll_iff.mpr fun x hx => by obtain ⟨c, _, rfl⟩ := List.mem_map.mp hx; exact clean_en c
theorem clean_msgs (ms : List (Option (List En))) : clean (msgsD ms) = true := by
  simp only [msgsD, clean]; exact cleanAll_iff.mpr fun x hx => by obtain ⟨c, _, rfl⟩ := List.mem_map.mp hx; exact clean_msg c
end DL
namespace DL
open PySem PySem.Spec L2 RZ
open PyProof.Rows hiding St
theorem uComp_each {t : TGt} {ue : UE} {σ0 : PSt} {Q : List PyData → Nat → Prop} (P : PyData → Prop) (c : Nat) : ∀ (xs acc : List PyData) (n : Nat), acc.length + xs.length ≤ 1000000 →
    (∀ x ∈ xs, ∃ σ1, t x σ0 = some σ1 ∧ ∀ n1 (Z : WK), n1 ≤ n + c * xs.length → (∀ y, P y → Z (.d y) (n1 + c)) → ue σ1 n1 Z) →
    (∀ ys, ys.length = xs.length → (∀ y ∈ ys, P y) → Q (acc ++ ys) (n + c * xs.length)) → uComp t uYes ue σ0 xs acc n Q
  | [], acc, n, hl, h, k => by
    have := k [] rfl (by simp)
    simp only [List.append_nil, List.length_nil, Nat.mul_zero, Nat.add_zero] at this
    exact this
  | x :: xs, acc, n, hl, h, k => by
    have e0 : c * (x :: xs).length = c * xs.length + c := Nat.mul_succ _ _
    obtain ⟨σ1, e, h1⟩ := h x (by simp)
    refine ⟨σ1, e, ?_⟩
    simp only [uYes, if_true]
    refine h1 n _ (by omega) fun y hy => ?_
    show _ ∧ _
    refine ⟨list_lt (by simp at hl; omega), ?_⟩
    refine uComp_each P c xs (acc ++ [y]) (n + c) (by simp at hl ⊢; omega) (fun z hz => ?_) fun ys hy1 hy2 => ?_
    · obtain ⟨σ2, e2, h2⟩ := h z (by simp [hz])
      exact ⟨σ2, e2, fun n1 Z hn hZ => h2 n1 Z (by omega) hZ⟩
    · have := k (y :: ys) (by simp [hy1]) (by
        intro z hz
        rcases List.mem_cons.mp hz with rfl | hz
        · exact hy
        · exact hy2 z hz)
      rw [List.append_assoc]
      have e3 : n + c + c * xs.length = n + c * (x :: xs).length := by omega
      rw [e3]
      exact this
theorem uLc_each {ui : UI} {t : TGt} {ue : UE} {vs : List Nat} {σ : PSt} {n : Nat} {Q : WK} (P : PyData → Prop) (c : Nat) (xs : List PyData) (hi : ∀ Q' : List PyData → Nat → Prop, Q' xs n → ui σ n Q') (hl : xs.length ≤ 1000000)
    (h : ∀ x ∈ xs, ∃ σ1, t x (wipeP σ vs) = some σ1 ∧ ∀ n1 (Z : WK), n1 ≤ n + c * xs.length → (∀ y, P y → Z (.d y) (n1 + c)) → ue σ1 n1 Z)
    (k : ∀ ys, ys.length = xs.length → (∀ y ∈ ys, P y) → Q (.d (.list ys)) (n + c * xs.length)) : uLc ui t uYes ue vs σ n Q :=
  hi _ (uComp_each P c xs [] n (by simpa using hl) h k)
theorem nice_sd {W D : Nat} (x : Sd) (hw : 10 ≤ W := by omega) : Nice W D 10 x.D := by
  cases x
  · exact (nice_mk (W := 10) (D := 0) (B := 10) (by decide +kernel)).mono
  · exact (nice_mk (W := 10) (D := 0) (B := 10) (by decide +kernel)).mono
  · exact (nice_mk (W := 10) (D := 0) (B := 10) (by decide +kernel)).mono
theorem nice_an {W D : Nat} (x : An) (hw : 10 ≤ W := by omega) : Nice W D 10 x.D := by
  cases x
  · exact (nice_mk (W := 10) (D := 0) (B := 10) (by decide +kernel)).mono
  · exact (nice_mk (W := 10) (D := 0) (B := 10) (by decide +kernel)).mono
  · exact (nice_mk (W := 10) (D := 0) (B := 10) (by decide +kernel)).mono
theorem nice_plan {p : Plan} (h : PlanOk p) : Nice 120 1 10 p.D := by
  have l1 := h.l1; have l2 := h.l2; have a1 := h.a1; have a2 := h.a2
  unfold Plan.D
  exact (nice_tuple (niceL_cons (W := 14) (D := 0) (B := 10) (nice_small (by omega) (by omega)) (niceL_cons (W := 14) (nice_small (by omega) (by omega)) (niceL_cons (W := 10) (nice_sd _) (niceL_cons (W := 10) (nice_sd _) (niceL_cons (nice_bool (W := 5)) (niceL_cons (nice_bool (W := 5)) (niceL_cons (nice_bool (W := 5)) (niceL_cons (W := 10) (nice_an _) (niceL_nil (W := 0))))))))))).mono
theorem nice_tup3 {W V U D B : Nat} {x y z : PyData} (h : Nice W D B x) (t : Nice V D B y) (u : Nice U D B z) : Nice (W + V + U + 9) (D + 1) B (.tuple [x, y, z]) := (nice_tuple (niceL_cons h (niceL_cons t (niceL_cons u (niceL_nil (W := 0)))))).mono (by omega)
end DL
namespace DL
open PySem PySem.Spec L2 RZ
open PyProof.Rows hiding St
def gEq0 : PyData → PyData → Option PyData
  | a, .tuple [] => some (.bool (PyData.eqv a (.tuple [])))
  | _, _ => none
theorem os_eq0 : OpS eq0D gEq0 := fun x y z M Q h q => by
  unfold gEq0 at h
  split at h
  · cases h; exact q
  · cases h
theorem gEq0_e1 {a : PyData} : gEq0 a (.tuple []) = some (.bool (PyData.eqv a (.tuple []))) := rfl
end DL
namespace DL
open PySem PySem.Spec L2 RZ
open PyProof.Rows hiding St
def InPl (s : List Int × Child) : Prop := ∀ a p, s.2 = some (a, p) → 0 ≤ p ∧ p < s.1.length
theorem mid_inPl {n v k : Int} {s : List Int × Child} (m : Mid n v k s) : InPl s := fun a p e => by
  have := m.ch a p e
  have := m.len
  omega
theorem sentE_len (ps : List (List Int)) (pl : Plan) (s : List Int × Child) (cs : List Ch) : (sentE ps pl s cs).length ≤ cs.length := by
  unfold sentE
  rw [List.length_map]
  exact List.length_filter_le _ _
theorem pSeq_nx {A B : FS} {π π1 : PD} {o : Option PO} (h : A π = some (.nx π1)) (h2 : B π1 = o) : pSeq A B π = o := by
  unfold pSeq
  rw [h]
  exact h2
theorem shaped_com (cs : List Ch) : SeqAt.shaped (.tuple (cs.map Ch.D)) = true := shaped_of (lay_com cs) (Nat.le_trans (depth_com cs) (by decide))
theorem any_filter_ne {α : Type} (xs : List α) (p : α → Bool) : (xs.filter p).isEmpty = !(xs.any p) := by
  induction xs with
  | nil => rfl
  | cons x xs ih =>
    by_cases h : p x = true
    · rw [List.filter_cons_of_pos h]; simp [h]
    · rw [List.filter_cons_of_neg h, ih]; simp [h]
theorem eqv_list_nil (xs : List PyData) : PyData.eqv (.list xs) (.list []) = xs.isEmpty := by cases xs <;> simp [PyData.eqv, PyData.eqvAll]
theorem shaped_lst {xs : List PyData} (h : SeqAt.shaped (.tuple xs) = true) : SeqAt.shaped (.list xs) = true := by
  unfold SeqAt.shaped at h ⊢
  simp only [PyData.canLay0, PyData.depth, Bool.and_eq_true, decide_eq_true_eq] at h ⊢
  exact h
theorem gNe_nil {xs : List PyData} (h : SeqAt.shaped (.tuple xs) = true) : gNe (.list xs) (.list []) = some (.bool (!xs.isEmpty)) := by
  unfold gNe
  rw [eqOk_sh (shaped_lst h) rfl, eqv_list_nil]
  rfl
def En.fits (n v k : Int) : En → Prop
  | .par p s t => 0 ≤ p ∧ p < n ∧ -1 ≤ s ∧ s < v ∧ ∀ a, t = some a → 0 ≤ a ∧ a < k
  | .kid c x => (∀ a p, c = some (a, p) → 0 ≤ a ∧ a < k ∧ 0 ≤ p ∧ p < n) ∧ -1 ≤ x ∧ x < v
def tolC (ps : List (List Int)) (p s : Int) : Option Int → Child → Child
  | none, c => c
  | some a, _ => if pP2 ps a s = true then some (a, p) else none
def cutB (ps : List (List Int)) (la : Bool) (p s : Int) : Child → Bool
  | none => false
  | some (a, q) => la && (q == p && !pP2 ps a s)
def cutC (ps : List (List Int)) (la : Bool) (p s : Int) (c : Child) : Child := if cutB ps la p s c = true then none else c
def recv (ps : List (List Int)) (pl : Plan) : En → List Int × Child → List Int × Child
  | .par p s t, (xs, c) => (xs.set p.toNat (if pV2 ps s = true then s else -1), cutC ps pl.la p s (tolC ps p s t c))
  | .kid none _, (xs, _) => (xs, none)
  | .kid (some (a, p)) x, (xs, _) => (xs, if pP2 ps a (if pl.tv = true then x else xs.getD p.toNat (-1)) = true then some (a, p) else none)
def recvs (ps : List (List Int)) (pl : Plan) (es : List En) (s : List Int × Child) : List Int × Child := es.foldl (fun s e => recv ps pl e s) s
theorem recv_len (ps : List (List Int)) (pl : Plan) (e : En) (s : List Int × Child) : (recv ps pl e s).1.length = s.1.length := by
  obtain ⟨xs, c⟩ := s
  cases e with
  | par p y t => simp [recv]
  | kid c x =>
    cases c with
    | none => rfl
    | some q => rfl
theorem tolC_in {n k : Int} {ps : List (List Int)} {p s : Int} {t : Option Int} {c : Child} (p0 : 0 ≤ p) (p1 : p < n) (ht : ∀ a, t = some a → 0 ≤ a ∧ a < k) (hc : ∀ a q, c = some (a, q) → 0 ≤ a ∧ a < k ∧ 0 ≤ q ∧ q < n) :
    ∀ a q, tolC ps p s t c = some (a, q) → 0 ≤ a ∧ a < k ∧ 0 ≤ q ∧ q < n := by
  intro a q e
  cases t with
  | none => exact hc a q e
  | some b =>
    simp only [tolC] at e
    split at e
    · cases e
      have := ht _ rfl
      omega
    · cases e
theorem cutC_in {n k : Int} {ps : List (List Int)} {la : Bool} {p s : Int} {c : Child} (hc : ∀ a q, c = some (a, q) → 0 ≤ a ∧ a < k ∧ 0 ≤ q ∧ q < n) :
    ∀ a q, cutC ps la p s c = some (a, q) → 0 ≤ a ∧ a < k ∧ 0 ≤ q ∧ q < n := by
  intro a q e
  unfold cutC at e
  split at e
  · cases e
  · exact hc _ _ e
theorem Mid.recv {n v k : Int} {s : List Int × Child} {ps : List (List Int)} {pl : Plan} {e : En} (h : Mid n v k s) (he : e.fits n v k) : Mid n v k (recv ps pl e s) := by
  obtain ⟨xs, c⟩ := s
  cases e with
  | par p y t =>
    obtain ⟨p0, p1, y0, y1, ht⟩ := he
    refine ⟨by simpa [DL.recv] using h.len, fun x hx => ?_, cutC_in (tolC_in p0 p1 ht h.ch)⟩
    rcases List.mem_or_eq_of_mem_set hx with hx | rfl
    · exact h.st x hx
    · split <;> omega
  | kid c x =>
    cases c with
    | none => exact ⟨h.len, h.st, fun _ _ e => by cases e⟩
    | some q =>
      obtain ⟨a, p⟩ := q
      refine ⟨h.len, h.st, fun b r e => ?_⟩
      have e : (if pP2 ps a (if pl.tv = true then x else xs.getD p.toNat (-1)) = true then some (a, p) else none) = some (b, r) := e
      by_cases hP : pP2 ps a (if pl.tv = true then x else xs.getD p.toNat (-1)) = true
      · rw [if_pos hP] at e; cases e; exact he.1 _ _ rfl
      · rw [if_neg hP] at e; cases e
theorem Mid.recvs {n v k : Int} {ps : List (List Int)} {pl : Plan} : ∀ {es : List En} {s : List Int × Child}, Mid n v k s → (∀ e ∈ es, e.fits n v k) → Mid n v k (DL.recvs ps pl es s)
  | [], _, h, _ => h
  | e :: es, s, h, hc => Mid.recvs (s := DL.recv ps pl e s) (h.recv (hc e (by simp))) fun x hx => hc x (by simp [hx])
theorem getD_in {v : Int} (hv : 0 ≤ v) : ∀ {xs : List Int} {i : Nat}, (∀ x ∈ xs, -1 ≤ x ∧ x < v) → -1 ≤ xs.getD i (-1) ∧ xs.getD i (-1) < v
  | [], i, _ => by simp; omega
  | x :: xs, 0, h => h x (by simp)
  | x :: xs, i + 1, h => by simpa using getD_in hv (xs := xs) (i := i) fun y hy => h y (by simp [hy])
theorem enOf_fits {n v k : Int} {pl : Plan} {s' : List Int × Child} {c : Ch} (hv : 0 ≤ v) (m : Mid n v k s') (hc : c.fits n v k) : (enOf pl s' c).fits n v k := by
  cases c with
  | par p y =>
    obtain ⟨p0, p1, y0, y1⟩ := hc
    refine ⟨p0, p1, y0, y1, fun a e => ?_⟩
    obtain ⟨xs, c⟩ := s'
    cases c with
    | none => cases e
    | some x =>
      obtain ⟨b, q⟩ := x
      simp only [tldC] at e
      split at e
      · cases e; have := m.ch _ _ rfl; omega
      · cases e
  | kid c =>
    refine ⟨hc, ?_⟩
    cases c with
    | none => simp only [tldV]; omega
    | some x =>
      obtain ⟨a, p⟩ := x
      simp only [tldV]
      split
      · exact getD_in hv m.st
      · omega
theorem sentE_fits {n v k : Int} {ps : List (List Int)} {pl : Plan} {s : List Int × Child} {cs : List Ch} (hv : 0 ≤ v) (m : Mid n v k s) (hc : ∀ c ∈ cs, c.fits n v k) : ∀ e ∈ sentE ps pl s cs, e.fits n v k := by
  intro e he
  unfold sentE at he
  obtain ⟨c, hcm, rfl⟩ := List.mem_map.mp he
  exact enOf_fits hv (m.goes hc) (hc c (List.mem_filter.mp hcm).1)
theorem msgs_fits {n v k : Int} {ps : List (List Int)} {pl : Plan} {s : List Int × Child} {cs : List Ch} (hv : 0 ≤ v) (m : Mid n v k s) (hc : ∀ c ∈ cs, c.fits n v k) : ∀ es, some es ∈ msgs ps pl s cs → ∀ e ∈ es, e.fits n v k := by
  intro es h e he
  have key := sentE_fits (ps := ps) (pl := pl) hv m hc
  unfold msgs at h
  split at h
  · simp only [List.mem_cons, List.not_mem_nil, or_false, Option.some.injEq] at h
    subst h
    exact key e he
  · simp only [List.mem_cons, List.not_mem_nil, or_false] at h
    rcases h with h | h <;> split at h <;> first | (obtain rfl := Option.some.inj h; exact key e (List.mem_filter.mp he).1) | cases h
end DL
namespace DL
open PySem PySem.Spec L2 RZ
open PyProof.Rows hiding St
def dChIn (n k : Int) : PyData → Bool
  | .tuple [] => true
  | .tuple [a, p] => isWithin a 0 (k - 1) && isWithin p 0 (n - 1)
  | _ => false
def dSts (n v k : Int) : PyData → Bool
  | .tuple [.tuple xs, c] => (xs.length : Int) == n && xs.all (fun x => isWithin x (-1) (v - 1)) && dChIn n k c
  | _ => false
def dInt0 : PyData → Int
  | .int i => i
  | _ => 0
def dPars : PyData → List PyData
  | .tuple [.tuple xs, _] => xs
  | _ => []
def dCopy (n v k : Int) (ps : List (List Int)) (x : PyData) : Bool := dSts n v k x && (dPars x).all (fun x => dInt0 x == -1 || pV2 ps (dInt0 x))
theorem dSts_inv {n v k : Int} {x : PyData} (h : dSts n v k x = true) : ∃ (xs : List PyData) (c : PyData), x = .tuple [.tuple xs, c] ∧ (xs.length : Int) = n ∧ xs.all (fun x => isWithin x (-1) (v - 1)) = true ∧ dChIn n k c = true := by
  unfold dSts at h
  split at h
  · rename_i xs c
    simp only [Bool.and_eq_true] at h
    exact ⟨xs, c, rfl, by simpa using h.1.1, h.1.2, h.2⟩
  · cases h
theorem within_int {x : PyData} {lo hi : Int} (h : isWithin x lo hi = true) : ∃ i, x = .int i ∧ lo ≤ i ∧ i ≤ hi := by
  cases x with
  | int i =>
    simp only [isWithin, Bool.and_eq_true, decide_eq_true_eq] at h
    exact ⟨i, rfl, h.1, h.2⟩
  | _ => cases h
theorem withins {xs : List PyData} {lo hi : Int} (h : xs.all (fun x => isWithin x lo hi) = true) : ∃ is : List Int, xs = is.map .int ∧ ∀ i ∈ is, lo ≤ i ∧ i ≤ hi := by
  induction xs with
  | nil => exact ⟨[], rfl, by simp⟩
  | cons x xs ih =>
    simp only [List.all_cons, Bool.and_eq_true] at h
    obtain ⟨i, rfl, h0, h1⟩ := within_int h.1
    obtain ⟨is, rfl, h2⟩ := ih h.2
    exact ⟨i :: is, rfl, fun j hj => by
      rcases List.mem_cons.mp hj with rfl | hj
      · exact ⟨h0, h1⟩
      · exact h2 j hj⟩
theorem shaped_boolsL {α : Type} (f : α → Bool) (xs : List α) : SeqAt.shaped (.list (xs.map fun x => PyData.bool (f x))) = true :=
  shaped_lst (shaped_of (lay_tup fun x hx => by obtain ⟨p, _, rfl⟩ := List.mem_map.mp hx; rfl) (Nat.le_trans (depth_tup (m := 0) fun x hx => by obtain ⟨p, _, rfl⟩ := List.mem_map.mp hx; exact Nat.le_refl 0) (by decide)))
theorem shaped_intsL (xs : List Int) : SeqAt.shaped (.list (xs.map PyData.int)) = true := shaped_lst (shaped_tupI xs)
theorem any_is_false {α : Type} (f : α → Bool) (xs : List α) : (xs.any fun x => f x == false) = !(xs.all f) := by
  induction xs with
  | nil => rfl
  | cons x xs ih => simp only [List.any_cons, List.all_cons, ih]; cases f x <;> rfl
theorem any_not {α : Type} (f : α → Bool) (xs : List α) : (xs.any fun x => !f x) = !(xs.all f) := by
  induction xs with
  | nil => rfl
  | cons x xs ih => simp only [List.any_cons, List.all_cons, ih]; cases f x <;> rfl
end DL
namespace DL
open PySem PySem.Spec L2 RZ
open PyProof.Rows hiding St
section
variable {V : UEnds} {σ : PSt} {n : Nat} {A B : US}
theorem w_seq (h : A { V with nx := B V } σ n) : uSeq A B V σ n := h
theorem w_set {i : Nat} {f : FE} {x : PyData} (e : f (pd σ) = some x) (h : V.nx (put σ i (.d x)) n) : uSet i (emb f) V σ n := ⟨x, e, h⟩
theorem w_sset {i : Nat} {f : FE} (x : PyData) (e : f (pd σ) = some x) (h : B V (put σ i (.d x)) n) : uSeq (uSet i (emb f)) B V σ n := ⟨x, e, h⟩
theorem w_ssetL {i : Nat} {f : FA} (xs : List PyData) (e : f (pd σ) = some xs) (h : B V (put σ i (.d (.list xs))) n) : uSeq (uSetL i (embI f)) B V σ n := ⟨xs, e, h⟩
theorem w_if {f : FT} (b : Bool) (e : f (pd σ) = some b) (ht : b = true → A V σ n) (hf : b = false → B V σ n) : uIfS (embT f) A B V σ n := ⟨b, e, by
  cases b
  · exact hf rfl
  · exact ht rfl⟩
theorem w_ifF {f : FT} (e : f (pd σ) = some false) (h : B V σ n) : uIfS (embT f) A B V σ n := ⟨false, e, h⟩
theorem w_ifT {f : FT} (e : f (pd σ) = some true) (h : A V σ n) : uIfS (embT f) A B V σ n := ⟨true, e, h⟩
theorem w_sifF {f : FT} {C : US} (e : f (pd σ) = some false) (h : B { V with nx := C V } σ n) : uSeq (uIfS (embT f) A B) C V σ n := ⟨false, e, h⟩
theorem w_sif0 {f : FT} {C : US} (e : f (pd σ) = some false) (h : C V σ n) : uSeq (uIfS (embT f) A uNext) C V σ n := ⟨false, e, h⟩
theorem w_sifT {f : FT} {C : US} (e : f (pd σ) = some true) (h : A { V with nx := C V } σ n) : uSeq (uIfS (embT f) A B) C V σ n := ⟨true, e, h⟩
theorem w_spar {i j : Nat} {f : FA} (x y : PyData) (e : f (pd σ) = some [x, y]) (h : B V (put (put σ i (.d x)) j (.d y)) n) : uSeq (uPar i j (embA f)) B V σ n := ⟨_, e, h⟩
theorem w_spar3 {i j l : Nat} {f : FA} (x y z : PyData) (e : f (pd σ) = some [x, y, z]) (h : B V (put (put (put σ i (.d x)) j (.d y)) l (.d z)) n) : uSeq (uPar3 i j l (embA f)) B V σ n := ⟨_, e, h⟩
theorem w_sasg {t : TGt} {f : FE} (x : PyData) (σ1 : PSt) (e : f (pd σ) = some x) (e1 : t x σ = some σ1) (h : B V σ1 n) : uSeq (uAsg t (emb f)) B V σ n := ⟨x, e, σ1, e1, h⟩
theorem w_ret {f : FE} {x : PyData} (e : f (pd σ) = some x) (h : V.rt (.d x) n) : uRet (emb f) V σ n := ⟨x, e, h⟩
theorem w_sfor {f : FA} {t : TGt} {U : US} (xs : List PyData) (e : f (pd σ) = some xs) (h : uLoop t U { V with nx := B V } xs σ n) : uSeq (uFor (embI f) t U) B V σ n := ⟨xs, e, h⟩
theorem w_for {f : FA} {t : TGt} {U : US} (xs : List PyData) (e : f (pd σ) = some xs) (h : uLoop t U V xs σ n) : uFor (embI f) t U V σ n := ⟨xs, e, h⟩
theorem w_app {i : Nat} {f : FE} (xs : List PyData) (x : PyData) (h0 : σ i = some (.d (.list xs))) (e : f (pd σ) = some x) (hl : xs.length < 1000000) (h : V.nx (put σ i (.d (.list (xs ++ [x])))) n) : uApp i (emb f) V σ n := ⟨xs, h0, x, e, list_lt (by omega), h⟩
theorem w_sapp {i : Nat} {f : FE} (xs : List PyData) (x : PyData) (h0 : σ i = some (.d (.list xs))) (e : f (pd σ) = some x) (hl : xs.length < 1000000) (h : B V (put σ i (.d (.list (xs ++ [x])))) n) : uSeq (uApp i (emb f)) B V σ n := ⟨xs, h0, x, e, list_lt (by omega), h⟩
theorem w_sset_u {i : Nat} {ue : UE} (P : PyData → Nat → Prop) (h : ∀ Z : WK, (∀ x n', P x n' → Z (.d x) n') → ue σ n Z) (k : ∀ x n', P x n' → B V (put σ i (.d x)) n') : uSeq (uSet i ue) B V σ n := h _ k
theorem w_emb {f : FE} {x : PyData} {Z : WK} (e : f (pd σ) = some x) (h : Z (.d x) n) : emb f σ n Z := ⟨x, e, h⟩
end
theorem atI_last {α : Type} {xs : List α} (h : xs ≠ []) : ∃ x ∈ xs, L2.atI xs (-1) = some x := by
  have hl : 1 ≤ xs.length := List.length_pos_iff.mpr h
  refine ⟨xs.getLast h, List.getLast_mem h, ?_⟩
  have e : ixN xs.length (-1) = some (xs.length - 1) := by
    unfold ixN
    rw [if_neg (by omega), if_pos (by omega)]
    congr 1
    omega
  unfold L2.atI
  rw [e]
  show xs[xs.length - 1]? = _
  rw [List.getLast_eq_getElem, List.getElem?_eq_getElem]
end DL
namespace DL
open PySem PySem.Spec L2 RZ
open PyProof.Rows hiding St
section
variable {L : Nat} {mu : List Nat} {w we wa wb : WE} {ui : UI} {fi : FA} {ua ub ue : UE} {fa fb fe : FE} {wt : WT} {ut : UT} {ft : FT} {wr : WA} {ws : WS} {U : US} {F : FS}
def onlyRet : PO → Option PO
  | .rt x => some (.rt x)
  | .rl x => some (.rl x)
  | _ => none
theorem onlyRet_rt (x : PyData) : onlyRet (.rt x) = some (.rt x) := rfl
theorem onlyRet_rl (x : List PyData) : onlyRet (.rl x) = some (.rl x) := rfl
def uFrz (i : Nat) (U : US) : US := fun V σ n => ∃ xs, σ i = some (.d (.list xs)) ∧ U { V with nx := fun _ _ => False, bk := fun _ _ => False, ct := fun _ _ => False } σ n
def pFrz (i : Nat) (F : FS) : FS := fun π => (π i).bind fun x => (asL x).bind fun _ => (F π).bind onlyRet
theorem ss_frz (i : Nat) (hi : i < L) (hm : i ∈ mu) (h : SimS L (mu.filter (· != i)) ws U) : SimS L mu (wFrz i ws) (uFrz i U) := fun hp a M0 δ M σ n E V O ⟨xs, e, q⟩ C => by
  obtain ⟨b, ys, e1, e2, e3⟩ := O.list hm e
  cases e1
  unfold wFrz
  rw [e2]
  have el : lstMD M b = some xs := by
    unfold lstMD
    rw [e3]
    exact allD_map xs
  show optD (lstMD M b) _
  rw [el]
  exact h hp a M0 _ _ σ n E _ (O.frz hi e hm e2) q ⟨fun _ _ _ _ _ q => q.elim, C.rt, C.rl, fun _ _ _ _ _ q => q.elim, fun _ _ _ _ _ q => q.elim⟩
theorem sps_frz (i : Nat) (hi : i < L) (hm : i ∈ mu) (h : SimPS L (mu.filter (· != i)) ws F) : SimPS L mu (wFrz i ws) (pFrz i F) := (ss_frz i hi hm h).mono fun V σ n ⟨π, o, h, e, k⟩ => by
  obtain ⟨x, e1, e2⟩ := Option.bind_eq_some_iff.mp e
  obtain ⟨xs, e3, e4⟩ := Option.bind_eq_some_iff.mp e2
  obtain ⟨o2, e5, e6⟩ := Option.bind_eq_some_iff.mp e4
  cases asL_inv e3
  refine ⟨xs, by rw [h]; show (π i).map _ = _; rw [e1]; rfl, π, o2, h, e5, ?_⟩
  cases o2 <;> cases e6 <;> exact k
def OpL (rd : R2D) (g : PyData → PyData → Option (List PyData)) : Prop := ∀ x y zs M Q, g x y = some zs → (∀ p, M p = none → Q (.r p) (mupd M p (.lst (zs.map .d)))) → rd (.d x) (.d y) M Q
def OpLV (rd : R2D) (g : PyData → PyData → Option (List PyData)) : Prop := ∀ dx dy x y zs M Q, viewD M dx = some x → viewD M dy = some y → g x y = some zs → (∀ p, M p = none → Q (.r p) (mupd M p (.lst (zs.map .d)))) → rd dx dy M Q
def uOpL (g : PyData → PyData → Option (List PyData)) (ua ub : UE) : UI := fun σ n Q => ua σ n fun v n1 => ub σ n1 fun v' n2 => onD v fun x => onD v' fun y => ∃ z, g x y = some z ∧ Q z n2
def pOpL (g : PyData → PyData → Option (List PyData)) (fa fb : FE) : FA := fun π => (fa π).bind fun x => (fb π).bind fun y => g x y
theorem emb_opL {g : PyData → PyData → Option (List PyData)} : ∀ σ n Q, embI (pOpL g fa fb) σ n Q → uOpL g (emb fa) (emb fb) σ n Q := fun σ n Q ⟨z, e, q⟩ => by
  obtain ⟨x, e1, e⟩ := Option.bind_eq_some_iff.mp e
  obtain ⟨y, e2, e⟩ := Option.bind_eq_some_iff.mp e
  exact ⟨x, e1, y, e2, z, e, q⟩
theorem sl_op {rd : R2D} {g : PyData → PyData → Option (List PyData)} (ho : OpL rd g) (ha : SimE L mu true wa ua) (hb : SimE L mu true wb ub) : SimL L mu (wOp rd wa wb) (uOpL g ua ub) := fun hp a M0 δ M σ n Q Z O q E => by
  refine ha hp a M0 δ M σ n _ _ O q fun v n1 M1 dv O1 r1 q1 => ?_
  refine hb hp a M0 δ M1 σ n1 _ _ O1 q1 fun v' n2 M2 dv' O2 r2 q2 => ?_
  obtain ⟨x, rfl, q3⟩ := onD_inv q2
  obtain ⟨y, rfl, z, hz, q4⟩ := onD_inv q3
  rw [r1.strict.1, r2.strict.1]
  exact ho x y z M2 Q hz (E z n2 M2 O2 q4)
theorem sl_opV {rd : R2D} {g : PyData → PyData → Option (List PyData)} (ho : OpLV rd g) (ha : SimE L mu false wa ua) (hb : SimE L mu false wb ub) : SimL L mu (wOp rd wa wb) (uOpL g ua ub) := fun hp a M0 δ M σ n Q Z O q E => by
  refine ha hp a M0 δ M σ n _ _ O q fun v n1 M1 dv O1 r1 q1 => ?_
  refine hb hp a M0 δ M1 σ n1 _ _ O1 q1 fun v' n2 M2 dv' O2 r2 q2 => ?_
  obtain ⟨x, rfl, q3⟩ := onD_inv q2
  obtain ⟨y, rfl, z, hz, q4⟩ := onD_inv q3
  exact ho dv dv' x y z M2 Q (r1.view O2) (r2.view O2) hz (E z n2 M2 O2 q4)
theorem spl_op {rd : R2D} {g : PyData → PyData → Option (List PyData)} (ho : OpL rd g) (ha : SimP L mu true wa fa) (hb : SimP L mu true wb fb) : SimPL L mu (wOp rd wa wb) (pOpL g fa fb) := (sl_op ho ha hb).mono emb_opL
theorem spl_opV {rd : R2D} {g : PyData → PyData → Option (List PyData)} (ho : OpLV rd g) (ha : SimP L mu false wa fa) (hb : SimP L mu false wb fb) : SimPL L mu (wOp rd wa wb) (pOpL g fa fb) := (sl_opV ho ha hb).mono emb_opL
def gRepLL : PyData → PyData → Option (List PyData)
  | .list xs, .int k => if 0 ≤ k ∧ k ≤ 1000 ∧ xs.length ≤ 1000 then some (List.replicate k.toNat xs).flatten else none
  | _, _ => none
theorem gRepLL_c {xs : List PyData} {k : Int} (h1 : 0 ≤ k) (h2 : k ≤ 1000) (h3 : xs.length ≤ 1000) : gRepLL (.list xs) (.int k) = some (List.replicate k.toNat xs).flatten := if_pos ⟨h1, h2, h3⟩
theorem ol_rep : OpL repLM gRepLL := fun x y z M Q h q => by
  unfold gRepLL at h
  split at h
  · split at h
    · rename_i hk
      cases h
      exact ⟨hk.1, hk.2.1, hk.2.2, q⟩
    · cases h
  · cases h
def gAddL : PyData → PyData → Option (List PyData)
  | .list xs, .list ys => if xs.length + ys.length ≤ sizeLine then some (xs ++ ys) else none
  | _, _ => none
theorem gAddL_c {xs ys : List PyData} (h : xs.length + ys.length ≤ 1000000) : gAddL (.list xs) (.list ys) = some (xs ++ ys) := if_pos (list_len h)
theorem ol_add : OpLV addLM gAddL := fun dx dy x y z M Q hx hy h q => by
  unfold gAddL at h
  split at h
  · split at h
    · rename_i hl
      cases h
      unfold addLM
      rw [hx, hy]
      exact ⟨hl, q⟩
    · cases h
  · cases h
def uIfI (ut : UT) (ua ub : UI) : UI := fun σ n Q => ut σ n fun b n1 => if b = true then ua σ n1 Q else ub σ n1 Q
def pIfI (ft : FT) (fa fb : FA) : FA := fun π => (ft π).bind fun b => if b = true then fa π else fb π
theorem sl_if {uj : UI} (h : SimT L mu wt ut) (ha : SimL L mu wa ui) (hb : SimL L mu wb uj) : SimL L mu (wIf wt wa wb) (uIfI ut ui uj) := fun hp a M0 δ M σ n Q Z O q E => by
  refine h hp a M0 δ M σ n _ _ O q fun b n1 M1 O1 q1 => ?_
  by_cases hb' : b = true
  · rw [if_pos hb'] at q1 ⊢
    exact ha hp a M0 δ M1 σ n1 _ _ O1 q1 E
  · rw [if_neg hb'] at q1 ⊢
    exact hb hp a M0 δ M1 σ n1 _ _ O1 q1 E
theorem spl_if {fj : FA} (h : SimPT L mu wt ft) (ha : SimPL L mu wa fi) (hb : SimPL L mu wb fj) : SimPL L mu (wIf wt wa wb) (pIfI ft fi fj) := (sl_if h ha hb).mono fun σ n Q ⟨z, e, q⟩ => by
  obtain ⟨b, e1, e⟩ := Option.bind_eq_some_iff.mp e
  refine ⟨b, e1, ?_⟩
  cases b
  · exact ⟨z, e, q⟩
  · exact ⟨z, e, q⟩
def uKeep (i : Nat) : US := fun V σ n => ∃ x, σ i = some (.d x) ∧ V.nx σ n
def pKeep (i : Nat) : FS := fun π => (π i).map fun _ => .nx π
theorem ss_setIf (i : Nat) (hi : i < L) (hm : i ∈ mu) (h : SimT L mu wt ut) (ha : SimL L mu wa ui) : SimS L mu (wAsg (wIf wt wa (wV i)) (gNameD i)) (uIfS ut (uSetL i ui) (uKeep i)) := fun hp a M0 δ M σ n E V O q C => by
  refine h hp a M0 δ M σ n _ _ O q fun b n1 M1 O1 q1 => ?_
  by_cases hb' : b = true
  · rw [if_pos hb'] at q1 ⊢
    exact ss_setL i hi hm ha hp a M0 δ M1 σ n1 E V O1 q1 C
  · rw [if_neg hb'] at q1 ⊢
    obtain ⟨x, e, q2⟩ := q1
    obtain ⟨b, y, m, e0, e1, e2, e3, _⟩ := O1.obj hm e
    unfold wV
    rw [e1]
    show E.nx (δ.set i (some (.r b))) M1
    have hs : δ.set i (some (.r b)) = δ := by
      apply List.ext_getElem?
      intro j
      by_cases z : i = j
      · subst z
        rw [List.getElem?_set_self (by rw [O1.len]; exact hi), e1]
      · rw [List.getElem?_set_ne z]
    rw [hs]
    exact C.nx δ M1 σ n1 O1 q2
theorem sps_setIf (i : Nat) (hi : i < L) (hm : i ∈ mu) (h : SimPT L mu wt ft) (ha : SimPL L mu wa fi) : SimPS L mu (wAsg (wIf wt wa (wV i)) (gNameD i)) (pIfS ft (pSetL i fi) (pKeep i)) := (ss_setIf i hi hm h ha).mono fun V σ n ⟨π, o, h, e, k⟩ => by
  obtain ⟨b, e1, e2⟩ := Option.bind_eq_some_iff.mp e
  subst h
  refine ⟨b, by rw [pd_up]; exact e1, ?_⟩
  cases b
  · obtain ⟨x, e3, rfl⟩ := Option.map_eq_some_iff.mp e2
    exact ⟨x, by show (π i).map _ = _; rw [e3]; rfl, k⟩
  · obtain ⟨xs, e3, rfl⟩ := Option.map_eq_some_iff.mp e2
    refine ⟨xs, by rw [pd_up]; exact e3, ?_⟩
    show V.nx (put (up π) i (.d (.list xs))) n
    rw [up_put]
    exact k
abbrev AR := PV ⊕ PyData
abbrev UG := PSt → Nat → (List AR → Nat → Prop) → Prop
abbrev FG := PD → Option (List (PyData ⊕ PyData))
def ugNil : UG := fun _ n Q => Q [] n
def ugD (ue : UE) (ur : UG) : UG := fun σ n Q => ue σ n fun v n1 => ur σ n1 fun rs n2 => Q (.inl v :: rs) n2
def ugL (ui : UI) (ur : UG) : UG := fun σ n Q => ui σ n fun xs n1 => ur σ n1 fun rs n2 => Q (.inr (.list xs) :: rs) n2
def pgNil : FG := fun _ => some []
def pgD (fe : FE) (fr : FG) : FG := fun π => (fe π).bind fun x => (fr π).map (.inl x :: ·)
def pgL (fi : FA) (fr : FG) : FG := fun π => (fi π).bind fun xs => (fr π).map (.inr (.list xs) :: ·)
def Gots (L : Nat) (hp : Bool) (a : Addr) (mu : List Nat) (δ : SD) (M : Mem) (σ : PSt) (n : Nat) : Mem → List Bool → List DV → List AR → Prop
  | M0, [], [], [] => Own L hp a mu M0 δ M σ n
  | M0, false :: ks, d :: ds, .inl v :: rs => d = eV a v ∧ (v = .pen → hp = true) ∧ Gots L hp a mu δ M σ n M0 ks ds rs
  | M0, true :: ks, d :: ds, .inr x :: rs => ∃ p mo, d = .r p ∧ moD x = some mo ∧ M0 p = none ∧ (hp = true → p ≠ a) ∧ Gots L hp a mu δ M σ n (mupd M0 p mo) ks ds rs
  | _, _, _, _ => False
def SimG2 (L : Nat) (mu : List Nat) (ks : List Bool) (w : WA) (u : UG) : Prop := ∀ (hp : Bool) (a : Addr) (M0 : Mem) (δ : SD) (M : Mem) (σ : PSt) (n : Nat) (Q : List DV → Mem → Prop) (Z : List AR → Nat → Prop), Own L hp a mu M0 δ M σ n → u σ n Z →
  (∀ rs n' M' ds, Gots L hp a mu δ M' σ n' M0 ks ds rs → Z rs n' → Q ds M') → w δ M Q
theorem SimG2.mono {ks : List Bool} {w : WA} {u u' : UG} (h : SimG2 L mu ks w u) (k : ∀ σ n Q, u' σ n Q → u σ n Q) : SimG2 L mu ks w u' := fun hp a M0 δ M σ n Q Z O q e => h hp a M0 δ M σ n Q Z O (k _ _ _ q) e
theorem sg2_nil : SimG2 L mu [] wNil ugNil := fun hp a M0 δ M σ n Q Z O q E => E [] n M [] O q
theorem sg2_D {ks : List Bool} {ur : UG} (ha : SimE L mu true we ue) (hr : SimG2 L mu ks wr ur) : SimG2 L mu (false :: ks) (wCons we wr) (ugD ue ur) := fun hp a M0 δ M σ n Q Z O q E => by
  refine ha hp a M0 δ M σ n _ _ O q fun v n1 M1 dv O1 r1 q1 => ?_
  exact hr hp a M0 δ M1 σ n1 _ _ O1 q1 fun rs n2 M2 ds G q2 => E (.inl v :: rs) n2 M2 (dv :: ds) ⟨r1.strict.1, r1.strict.2, G⟩ q2
theorem sg2_L {ks : List Bool} {ur : UG} (ha : SimL L mu we ui) (hr : SimG2 L mu ks wr ur) : SimG2 L mu (true :: ks) (wCons we wr) (ugL ui ur) := fun hp a M0 δ M σ n Q Z O q E => by
  refine ha hp a M0 δ M σ n _ _ O q fun xs n1 M1 O1 q1 p hp' => ?_
  exact hr hp a _ δ _ σ n1 _ _ (O1.newD (o := .lst (xs.map .d)) hp') q1 fun rs n2 M2 ds G q2 => E (.inr (.list xs) :: rs) n2 M2 (.r p :: ds) ⟨p, _, rfl, rfl, (O1.fresh hp').2, (O1.fresh hp').1, G⟩ q2
def embG (f : FG) : UG := fun σ n Q => ∃ rs, f (pd σ) = some rs ∧ Q (rs.map fun r => r.map PV.d id) n
theorem spg2_nil : SimG2 L mu [] wNil (embG pgNil) := sg2_nil.mono fun σ n Q ⟨rs, e, q⟩ => by cases e; exact q
theorem spg2_D {ks : List Bool} {fr : FG} (ha : SimP L mu true we fe) (hr : SimG2 L mu ks wr (embG fr)) : SimG2 L mu (false :: ks) (wCons we wr) (embG (pgD fe fr)) := (sg2_D ha hr).mono fun σ n Q ⟨rs, e, q⟩ => by
  obtain ⟨x, e1, e2⟩ := Option.bind_eq_some_iff.mp e
  obtain ⟨ys, e3, rfl⟩ := Option.map_eq_some_iff.mp e2
  exact ⟨x, e1, ys, e3, q⟩
theorem spg2_L {ks : List Bool} {fr : FG} (ha : SimPL L mu we fi) (hr : SimG2 L mu ks wr (embG fr)) : SimG2 L mu (true :: ks) (wCons we wr) (embG (pgL fi fr)) := (sg2_L ha hr).mono fun σ n Q ⟨rs, e, q⟩ => by
  obtain ⟨x, e1, e2⟩ := Option.bind_eq_some_iff.mp e
  obtain ⟨ys, e3, rfl⟩ := Option.map_eq_some_iff.mp e2
  exact ⟨x, e1, ys, e3, q⟩
def arV : AR → PV
  | .inl v => v
  | .inr x => .d x
def stB : List Nat → List DV → SD → SD
  | i :: is, d :: ds, δ => (stB is ds δ).set i (some d)
  | _, _, δ => δ
def puB : List Nat → List AR → PSt → PSt
  | i :: is, r :: rs, σ => put (puB is rs σ) i (arV r)
  | _, _, σ => σ
def KindsOk (L : Nat) (mu : List Nat) : List Nat → List Bool → Bool
  | [], [] => true
  | i :: is, k :: ks => decide (i < L) && (decide (i ∈ mu) == k) && KindsOk L mu is ks
  | _, _ => false
theorem gots_own {hp : Bool} {a : Addr} {M : Mem} {δ : SD} {σ : PSt} {n : Nat} : ∀ {is : List Nat} {ks : List Bool} {M0 : Mem} {ds : List DV} {rs : List AR}, KindsOk L mu is ks = true → Gots L hp a mu δ M σ n M0 ks ds rs → Own L hp a mu M0 (stB is ds δ) M (puB is rs σ) n
  | [], [], M0, ds, rs, _, G => by
    cases ds with
    | cons _ _ => cases rs <;> exact G.elim
    | nil => cases rs with
      | cons _ _ => exact G.elim
      | nil => exact G
  | [], _ :: _, _, _, _, h, _ => by cases h
  | _ :: _, [], _, _, _, h, _ => by cases h
  | i :: is, k :: ks, M0, ds, rs, h, G => by
    simp only [KindsOk, Bool.and_eq_true, decide_eq_true_eq, beq_iff_eq] at h
    obtain ⟨⟨h1, h2⟩, h3⟩ := h
    cases k with
    | false =>
      cases ds with
      | nil => exact G.elim
      | cons d ds =>
        cases rs with
        | nil => exact G.elim
        | cons r rs =>
          cases r with
          | inr x => exact G.elim
          | inl v =>
            obtain ⟨rfl, g2, g3⟩ := G
            exact (gots_own h3 g3).put h1 (by simpa using h2) g2
    | true =>
      cases ds with
      | nil => exact G.elim
      | cons d ds =>
        cases rs with
        | nil => exact G.elim
        | cons r rs =>
          cases r with
          | inl v => exact G.elim
          | inr x =>
            obtain ⟨p, mo, rfl, g1, g2, g3, g4⟩ := G
            have O := gots_own h3 g4
            obtain ⟨hD, O2⟩ := O.unD g2 g3
            have := O2.newO h1 (by simpa using h2) mdel_same g1
            rw [mupd_mdel, mupd_self hD] at this
            exact this
def putsG : List Nat → List AR → PSt → PSt
  | i :: is, r :: rs, σ => putsG is rs (put σ i (arV r))
  | _, _, σ => σ
def putsP : List Nat → List (PyData ⊕ PyData) → PD → PD
  | i :: is, r :: rs, π => putsP is rs (put π i (r.elim id id))
  | _, _, π => π
theorem put_comm {α : Type} (σ : Nat → Option α) {i j : Nat} (v u : α) (h : i ≠ j) : put (put σ i v) j u = put (put σ j u) i v := by
  funext k
  unfold put
  by_cases h1 : k = j
  · subst h1
    rw [if_pos rfl, if_neg (Ne.symm h), if_pos rfl]
  · rw [if_neg h1]
    by_cases h2 : k = i
    · rw [if_pos h2, if_pos h2]
    · rw [if_neg h2, if_neg h2, if_neg h1]
def uParG (is : List Nat) (ug : UG) : US := fun V σ n => ug σ n fun rs n1 => V.nx (putsG is rs σ) n1
def pParG (is : List Nat) (fg : FG) : FS := fun π => (fg π).map fun rs => .nx (putsP is rs π)
theorem gots_len {hp : Bool} {a : Addr} {M : Mem} {δ : SD} {σ : PSt} {n : Nat} : ∀ {ks : List Bool} {M0 : Mem} {ds : List DV} {rs : List AR}, Gots L hp a mu δ M σ n M0 ks ds rs → ds.length = ks.length ∧ rs.length = ks.length
  | [], M0, [], [], _ => ⟨rfl, rfl⟩
  | [], _, _ :: _, _, G => by cases ‹List AR› <;> exact G.elim
  | [], _, [], _ :: _, G => G.elim
  | k :: ks, _, [], _, G => by cases k <;> exact G.elim
  | k :: ks, _, _ :: _, [], G => by cases k <;> exact G.elim
  | k :: ks, M0, d :: ds, r :: rs, G => by
    cases k <;> cases r
    · have := gots_len G.2.2; simp [this.1, this.2]
    · exact G.elim
    · exact G.elim
    · obtain ⟨p, mo, _, _, _, _, g⟩ := G
      have := gots_len g
      simp [this.1, this.2]
theorem ss_parG2 (i j : Nat) {ks : List Bool} {ug : UG} (hk : KindsOk L mu [i, j] ks = true) (hij : i ≠ j) (h : SimG2 L mu ks wr ug) : SimS L mu (wPar i j wr) (uParG [i, j] ug) := fun hp a M0 δ M σ n E V O q C => by
  refine h hp a M0 δ M σ n _ _ O q fun rs n1 M1 ds G q1 => ?_
  have hl := gots_len G
  have hkl : ks.length = 2 := by
    match ks, hk with
    | [_, _], _ => rfl
    | [], h => cases h
    | [_], h => simp [KindsOk] at h
    | _ :: _ :: _ :: _, h => simp [KindsOk] at h
  rw [hkl] at hl
  match ds, rs, hl, G, q1 with
  | [d, e], [r, r'], _, G, q1 =>
    have O2 := gots_own hk G
    refine C.nx _ M1 _ n1 ?_ q1
    have e1 : putsG [i, j] [r, r'] σ = puB [i, j] [r, r'] σ := put_comm σ _ _ hij
    rw [e1]
    have e2 : (δ.set i (some d)).set j (some e) = stB [i, j] [d, e] δ := List.set_comm _ _ hij
    rw [e2]
    exact O2
theorem ss_parG3 (i j l : Nat) {ks : List Bool} {ug : UG} (hk : KindsOk L mu [i, j, l] ks = true) (hij : i ≠ j) (hil : i ≠ l) (hjl : j ≠ l) (h : SimG2 L mu ks wr ug) : SimS L mu (wPar3 i j l wr) (uParG [i, j, l] ug) := fun hp a M0 δ M σ n E V O q C => by
  refine h hp a M0 δ M σ n _ _ O q fun rs n1 M1 ds G q1 => ?_
  have hl := gots_len G
  have hkl : ks.length = 3 := by
    match ks, hk with
    | [_, _, _], _ => rfl
    | [], h => cases h
    | [_], h => simp [KindsOk] at h
    | [_, _], h => simp [KindsOk] at h
    | _ :: _ :: _ :: _ :: _, h => simp [KindsOk] at h
  rw [hkl] at hl
  match ds, rs, hl, G, q1 with
  | [d, e, f], [r, r', r2], _, G, q1 =>
    have O2 := gots_own hk G
    refine C.nx _ M1 _ n1 ?_ q1
    have e1 : putsG [i, j, l] [r, r', r2] σ = puB [i, j, l] [r, r', r2] σ := by
      show put (put (put σ i _) j _) l _ = put (put (put σ l _) j _) i _
      rw [put_comm σ _ _ hij, put_comm _ _ _ hil, put_comm σ _ _ hjl]
    rw [e1]
    have e2 : ((δ.set i (some d)).set j (some e)).set l (some f) = stB [i, j, l] [d, e, f] δ := by
      show _ = (((δ.set l (some f)).set j (some e)).set i (some d))
      rw [List.set_comm _ _ hij, List.set_comm _ _ hil, List.set_comm (some e) (some f) hjl]
    rw [e2]
    exact O2
theorem putsG_up : ∀ (is : List Nat) (rs : List (PyData ⊕ PyData)) (π : PD), putsG is (rs.map fun r => r.map PV.d id) (up π) = up (putsP is rs π)
  | [], _, _ => rfl
  | _ :: _, [], _ => rfl
  | i :: is, r :: rs, π => by
    show putsG is _ (put (up π) i _) = up (putsP is rs _)
    cases r with
    | inl x =>
      show putsG is _ (put (up π) i (.d x)) = _
      rw [up_put]; exact putsG_up is rs _
    | inr x =>
      show putsG is _ (put (up π) i (.d x)) = _
      rw [up_put]; exact putsG_up is rs _
theorem sps_parG2 (i j : Nat) {ks : List Bool} {fg : FG} (hk : KindsOk L mu [i, j] ks = true) (hij : i ≠ j) (h : SimG2 L mu ks wr (embG fg)) : SimPS L mu (wPar i j wr) (pParG [i, j] fg) := (ss_parG2 i j hk hij h).mono fun V σ n ⟨π, o, h, e, k⟩ => by
  obtain ⟨rs, e1, rfl⟩ := Option.map_eq_some_iff.mp e
  subst h
  refine ⟨rs, by rw [pd_up]; exact e1, ?_⟩
  show V.nx (putsG _ _ (up π)) n
  rw [putsG_up]
  exact k
theorem sps_parG3 (i j l : Nat) {ks : List Bool} {fg : FG} (hk : KindsOk L mu [i, j, l] ks = true) (hij : i ≠ j) (hil : i ≠ l) (hjl : j ≠ l) (h : SimG2 L mu ks wr (embG fg)) : SimPS L mu (wPar3 i j l wr) (pParG [i, j, l] fg) := (ss_parG3 i j l hk hij hil hjl h).mono fun V σ n ⟨π, o, h, e, k⟩ => by
  obtain ⟨rs, e1, rfl⟩ := Option.map_eq_some_iff.mp e
  subst h
  refine ⟨rs, by rw [pd_up]; exact e1, ?_⟩
  show V.nx (putsG _ _ (up π)) n
  rw [putsG_up]
  exact k
theorem putsP_c (i : Nat) (is : List Nat) (r : PyData ⊕ PyData) (rs : List (PyData ⊕ PyData)) (π : PD) : putsP (i :: is) (r :: rs) π = putsP is rs (put π i (r.elim id id)) := rfl
theorem putsP_n (is : List Nat) (π : PD) : putsP is [] π = π := by cases is <;> rfl
theorem putsG_c (i : Nat) (is : List Nat) (r : AR) (rs : List AR) (σ : PSt) : putsG (i :: is) (r :: rs) σ = putsG is rs (put σ i (arV r)) := rfl
theorem putsG_n (is : List Nat) (σ : PSt) : putsG is [] σ = σ := by cases is <;> rfl
theorem arV_l (v : PV) : arV (.inl v) = v := rfl
theorem arV_r (x : PyData) : arV (.inr x) = .d x := rfl
theorem elim_l (x : PyData) : Sum.elim id id (Sum.inl x : PyData ⊕ PyData) = x := rfl
theorem elim_r (x : PyData) : Sum.elim id id (Sum.inr x : PyData ⊕ PyData) = x := rfl
theorem mem_filter_ne {i j : Nat} {mu : List Nat} : j ∈ mu.filter (· != i) ↔ j ∈ mu ∧ j ≠ i := by simp
theorem Own.shrink {hp : Bool} {a : Addr} {M0 M : Mem} {δ : SD} {σ : PSt} {n : Nat} {l : Nat} (O : Own L hp a mu M0 δ M σ n) (h : σ l = none) : Own L hp a (mu.filter (· != l)) M0 δ M σ n := by
  refine ⟨O.len, O.pen, O.sub, fun i v e => ?_, fun i j b hij hi => O.uniq i j b hij (mem_filter_ne.mp hi).1⟩
  have hi : i ≠ l := by rintro rfl; rw [h] at e; cases e
  obtain ⟨dv, e1, s⟩ := O.at_ i v e
  refine ⟨dv, e1, ?_⟩
  rcases s with ⟨s1, s2⟩ | ⟨s1, s2⟩
  · exact .inl ⟨fun q => s1 (mem_filter_ne.mp q).1, s2⟩
  · exact .inr ⟨mem_filter_ne.mpr ⟨s1, hi⟩, s2⟩
theorem Own.grow {hp : Bool} {a : Addr} {M0 M : Mem} {δ : SD} {σ : PSt} {n : Nat} {l : Nat} (O : Own L hp a (mu.filter (· != l)) M0 δ M σ n) : Own L hp a mu M0 δ M (wipeP σ [l]) n := by
  have w : ∀ i v, wipeP σ [l] i = some v → i ≠ l ∧ σ i = some v := fun i v e => by
    unfold wipeP at e
    split at e
    · cases e
    · rename_i h; exact ⟨h, e⟩
  refine ⟨O.len, O.pen, O.sub, fun i v e => ?_, fun i j b hij hi s1 s2 => ?_⟩
  · obtain ⟨hi, e⟩ := w i v e
    obtain ⟨dv, e1, s⟩ := O.at_ i v e
    refine ⟨dv, e1, ?_⟩
    rcases s with ⟨s1, s2⟩ | ⟨s1, s2⟩
    · exact .inl ⟨fun q => s1 (mem_filter_ne.mpr ⟨q, hi⟩), s2⟩
    · exact .inr ⟨(mem_filter_ne.mp s1).1, s2⟩
  · obtain ⟨v, hv⟩ := Option.isSome_iff_exists.mp s1
    obtain ⟨u, hu⟩ := Option.isSome_iff_exists.mp s2
    obtain ⟨a1, a2⟩ := w i v hv
    obtain ⟨b1, b2⟩ := w j u hu
    exact O.uniq i j b hij (mem_filter_ne.mpr ⟨hi, a1⟩) (by rw [a2]; rfl) (by rw [b2]; rfl)
theorem gots_grow {hp : Bool} {a : Addr} {M : Mem} {δ : SD} {σ : PSt} {n : Nat} {l : Nat} : ∀ {ks : List Bool} {M0 : Mem} {ds : List DV} {rs : List AR}, Gots L hp a (mu.filter (· != l)) δ M σ n M0 ks ds rs → Gots L hp a mu δ M (wipeP σ [l]) n M0 ks ds rs
  | [], M0, [], [], G => Own.grow G
  | [], _, _ :: _, _, G => by cases ‹List AR› <;> exact G.elim
  | [], _, [], _ :: _, G => G.elim
  | k :: ks, _, [], _, G => by cases k <;> exact G.elim
  | k :: ks, _, _ :: _, [], G => by cases k <;> exact G.elim
  | k :: ks, M0, d :: ds, r :: rs, G => by
    cases k <;> cases r
    · exact ⟨G.1, G.2.1, gots_grow G.2.2⟩
    · exact G.elim
    · exact G.elim
    · obtain ⟨p, mo, a1, a2, a3, a4, g⟩ := G
      exact ⟨p, mo, a1, a2, a3, a4, gots_grow g⟩
def uGrow (l : Nat) (U : US) : US := fun V σ n => σ l = none ∧ U V σ n
def pGrow (l : Nat) (F : FS) : FS := fun π => match π l with
  | none => F π
  | some _ => none
theorem ss_grow (i j l : Nat) {ks : List Bool} {ug : UG} {vs : List Nat} {g : WG} {t : TGt} (hk : KindsOk L mu [i, j, l] ks = true) (hij : i ≠ j) (hil : i ≠ l) (hjl : j ≠ l) (hg : SimG L (mu.filter (· != l)) vs g t) (h : SimE L (mu.filter (· != l)) true we ue) (h2 : SimG2 L (mu.filter (· != l)) ks wr ug) (h3 : SimS L mu ws U) :
    SimS L mu (wSeq (wAsg we g) (wSeq (wPar3 i j l wr) ws)) (uGrow l (uSeq (uAsg t ue) (uSeq (uParG [i, j, l] ug) U))) := fun hp a M0 δ M σ n E V O ⟨hl, q⟩ C => by
  refine h hp a M0 δ M σ n _ _ (O.shrink hl) q fun v n1 M1 dv O1 r1 q1 => ?_
  obtain ⟨x, rfl, σ1, e1, q2⟩ := onD_inv q1
  rw [r1.strict.1]
  refine hg hp a M0 δ M1 σ σ1 n1 x _ O1 e1 fun δ1 O2 _ => ?_
  refine h2 hp a M0 δ1 M1 σ1 n1 _ _ O2 q2 fun rs n3 M3 ds G q3 => ?_
  have G := gots_grow G
  have hlen := gots_len G
  have hkl : ks.length = 3 := by
    match ks, hk with
    | [_, _, _], _ => rfl
    | [], h => cases h
    | [_], h => simp [KindsOk] at h
    | [_, _], h => simp [KindsOk] at h
    | _ :: _ :: _ :: _ :: _, h => simp [KindsOk] at h
  rw [hkl] at hlen
  match ds, rs, hlen, G, q3 with
  | [d, e, f], [r, r', r2], _, G, q3 =>
    have O3 := gots_own hk G
    have e1 : putsG [i, j, l] [r, r', r2] σ1 = puB [i, j, l] [r, r', r2] (wipeP σ1 [l]) := by
      show put (put (put σ1 i _) j _) l _ = put (put (put (wipeP σ1 [l]) l _) j _) i _
      rw [put_comm σ1 _ _ hij, put_comm _ _ _ hil, put_comm σ1 _ _ hjl]
      congr 2
      funext k
      unfold put wipeP wipeP
      split <;> rfl
    have e2 : ((δ1.set i (some d)).set j (some e)).set l (some f) = stB [i, j, l] [d, e, f] δ1 := by
      show _ = (((δ1.set l (some f)).set j (some e)).set i (some d))
      rw [List.set_comm _ _ hij, List.set_comm _ _ hil, List.set_comm (some e) (some f) hjl]
    show ws E (((δ1.set i (some d)).set j (some e)).set l (some f)) M3
    rw [e2]
    rw [e1] at q3
    exact h3 hp a M0 _ M3 _ n3 E V O3 q3 C
theorem sps_grow (i j l : Nat) {ks : List Bool} {fg : FG} {vs : List Nat} {g : WG} {t : TGt} {q : TGp} (hk : KindsOk L mu [i, j, l] ks = true) (hij : i ≠ j) (hil : i ≠ l) (hjl : j ≠ l) (hg : SimG L (mu.filter (· != l)) vs g t) (hq : TQ t q) (h : SimP L (mu.filter (· != l)) true we fe) (h2 : SimG2 L (mu.filter (· != l)) ks wr (embG fg)) (h3 : SimPS L mu ws F) :
    SimPS L mu (wSeq (wAsg we g) (wSeq (wPar3 i j l wr) ws)) (pGrow l (pSeq (pAsg q fe) (pSeq (pParG [i, j, l] fg) F))) := (ss_grow i j l hk hij hil hjl hg h h2 h3).mono fun V σ n ⟨π, o, h, e, k⟩ => by
  subst h
  unfold pGrow at e
  split at e
  · rename_i hl
    refine ⟨by show (π l).map _ = _; rw [hl]; rfl, ?_⟩
    obtain ⟨o1, e1, e2⟩ := Option.bind_eq_some_iff.mp e
    obtain ⟨x, e3, e4⟩ := Option.bind_eq_some_iff.mp e1
    obtain ⟨π1, e5, rfl⟩ := Option.map_eq_some_iff.mp e4
    obtain ⟨o2, e6, e7⟩ := Option.bind_eq_some_iff.mp e2
    obtain ⟨rs, e8, rfl⟩ := Option.map_eq_some_iff.mp e6
    obtain ⟨σ1, t1, t2, t3⟩ := hq x (up π) π1 (by rw [pd_up]; exact e5)
    have := t3 π rfl
    subst this
    refine ⟨x, by rw [pd_up]; exact e3, _, t1, rs, by rw [pd_up]; exact e8, ?_⟩
    show embS F V (putsG _ _ (up π1)) n
    rw [putsG_up]
    exact ⟨_, o, rfl, e7, k⟩
  · cases e
end
end DL
namespace DL
open PySem PySem.Spec L2 RZ
open PyProof.Rows hiding St
def srt {α : Type} (f : α → PyData) (l : List α) : List α := l.mergeSort fun a b => PySem.W.dataLe false (fun d => d) (f a) (f b)
theorem srt_map {α : Type} (f : α → PyData) (l : List α) : (srt f l).map f = sortedL (l.map f) := by
  unfold srt sortedL
  exact List.map_mergeSort fun a _ b _ => rfl
theorem srt_perm {α : Type} (f : α → PyData) (l : List α) : (srt f l).Perm l := List.mergeSort_perm _ _
theorem srt_mem {α : Type} {f : α → PyData} {l : List α} {x : α} : x ∈ srt f l ↔ x ∈ l := (srt_perm f l).mem_iff
theorem srt_len {α : Type} (f : α → PyData) (l : List α) : (srt f l).length = l.length := (srt_perm f l).length_eq
def wish (ps : List (List Int)) (s : List Int × Child) : List Int × Child := (s.1.map fun x => if pV2 ps x = true then x else -1, if pCh ps s = true then s.2 else none)
theorem Mid.wish {n v k : Int} {ps : List (List Int)} {s : List Int × Child} (h : Mid n v k s) (hv : 0 ≤ v) : Mid n v k (DL.wish ps s) := by
  refine ⟨by simpa [DL.wish] using h.len, fun x hx => ?_, fun a p e => ?_⟩
  · obtain ⟨y, hy, rfl⟩ := List.mem_map.mp hx
    have := h.st y hy
    split <;> omega
  · simp only [DL.wish] at e
    split at e
    · exact h.ch a p e
    · cases e
def mesD (es : List En) : PyData := .tuple (es.map En.D)
theorem mesD_msg (es : List En) : mesD es = msgD (some es) := rfl
def laneD (l : List (List En)) : PyData := .tuple (l.map mesD)
def lanesD (ls : List (List (List En))) : PyData := .tuple (ls.map laneD)
theorem lay_str_p : (PyData.str "parent").canLay0 = true := by simp only [PyData.canLay0]; decide +kernel
theorem lay_str_c : (PyData.str "child").canLay0 = true := by simp only [PyData.canLay0]; decide +kernel
theorem lay_en (e : En) : e.D.canLay0 = true := by
  cases e with
  | par p s t => cases t <;> exact lay_tup (by intro x hx; simp only [List.mem_cons, List.not_mem_nil, or_false] at hx; rcases hx with rfl | rfl | rfl | rfl <;> first | exact lay_str_p | rfl)
  | kid c v => exact lay_tup (by intro x hx; simp only [List.mem_cons, List.not_mem_nil, or_false] at hx; rcases hx with rfl | rfl | rfl <;> first | exact lay_str_c | exact lay_ch c | rfl)
theorem depth_en (e : En) : e.D.depth ≤ 2 := by
  cases e with
  | par p s t => cases t <;> simp [En.D, PyData.depth, PyData.depthAll]
  | kid c v => have := depth_ch c; simp only [En.D, PyData.depth, PyData.depthAll]; omega
theorem lay_msg (m : Option (List En)) : (msgD m).canLay0 = true := by
  cases m with
  | none => rfl
  | some es => exact lay_tup fun x hx => by obtain ⟨e, _, rfl⟩ := List.mem_map.mp hx; exact lay_en e
theorem depth_msg (m : Option (List En)) : (msgD m).depth ≤ 3 := by
  cases m with
  | none => exact Nat.zero_le _
  | some es => exact depth_tup (m := 2) fun x hx => by obtain ⟨e, _, rfl⟩ := List.mem_map.mp hx; exact depth_en e
theorem lay_lane (l : List (List En)) : (laneD l).canLay0 = true := lay_tup fun x hx => by obtain ⟨e, _, rfl⟩ := List.mem_map.mp hx; exact lay_msg (some e)
theorem depth_lane (l : List (List En)) : (laneD l).depth ≤ 4 := depth_tup (m := 3) fun x hx => by obtain ⟨e, _, rfl⟩ := List.mem_map.mp hx; exact depth_msg (some e)
theorem lay_lst {xs : List PyData} (h : ∀ x ∈ xs, x.canLay0 = true) : (PyData.list xs).canLay0 = true := by
  simp only [PyData.canLay0]
  exact layAll_iff.mpr h
theorem depth_lst {xs : List PyData} {m : Nat} (h : ∀ x ∈ xs, x.depth ≤ m) : (PyData.list xs).depth ≤ m + 1 := by
  have := depthAll_iff.mpr h
  simp only [PyData.depth]
  omega
theorem shaped_mapL {α : Type} {f : α → PyData} {xs : List α} {m : Nat} (h : ∀ x ∈ xs, (f x).canLay0 = true) (hd : ∀ x ∈ xs, (f x).depth ≤ m) (hm : m ≤ 60 := by omega) : SeqAt.shaped (.list (xs.map f)) = true :=
  shaped_of (lay_lst fun y hy => by obtain ⟨x, hx, rfl⟩ := List.mem_map.mp hy; exact h x hx) (Nat.le_trans (depth_lst (m := m) fun y hy => by obtain ⟨x, hx, rfl⟩ := List.mem_map.mp hy; exact hd x hx) (by omega))
theorem shaped_mapT {α : Type} {f : α → PyData} {xs : List α} {m : Nat} (h : ∀ x ∈ xs, (f x).canLay0 = true) (hd : ∀ x ∈ xs, (f x).depth ≤ m) (hm : m ≤ 60 := by omega) : SeqAt.shaped (.tuple (xs.map f)) = true :=
  shaped_of (lay_tup fun y hy => by obtain ⟨x, hx, rfl⟩ := List.mem_map.mp hy; exact h x hx) (Nat.le_trans (depth_tup (m := m) fun y hy => by obtain ⟨x, hx, rfl⟩ := List.mem_map.mp hy; exact hd x hx) (by omega))
theorem eqv_all_nil (xs : List PyData) : PyData.eqvAll xs [] = xs.isEmpty := by cases xs <;> simp [PyData.eqvAll]
theorem gNe_nilL {xs : List PyData} (h : SeqAt.shaped (.list xs) = true) : gNe (.list xs) (.list []) = some (.bool (!xs.isEmpty)) := by
  unfold gNe
  rw [eqOk_sh h rfl, eqv_list_nil]
  rfl
theorem gEq_nilL {xs : List PyData} (h : SeqAt.shaped (.list xs) = true) : gEq (.list xs) (.list []) = some (.bool xs.isEmpty) := by
  unfold gEq
  rw [eqOk_sh h rfl, eqv_list_nil]
  rfl
theorem gNe_nilT {xs : List PyData} (h : SeqAt.shaped (.tuple xs) = true) : gNe (.tuple xs) (.tuple []) = some (.bool (!xs.isEmpty)) := by
  unfold gNe
  rw [eqOk_sh h rfl, eqv_tup, eqv_all_nil]
  rfl
theorem gEq_nilT {xs : List PyData} (h : SeqAt.shaped (.tuple xs) = true) : gEq (.tuple xs) (.tuple []) = some (.bool xs.isEmpty) := by
  unfold gEq
  rw [eqOk_sh h rfl, eqv_tup, eqv_all_nil]
  rfl
theorem shaped_lane (l : List (List En)) : SeqAt.shaped (laneD l) = true := shaped_of (lay_lane l) (Nat.le_trans (depth_lane l) (by decide))
theorem pNe_nil {π : PD} {f : FE} {xs : List PyData} (e : f π = some (.list xs)) (h : SeqAt.shaped (.list xs) = true) : (pB (pOp gNe f (pMk .list pNil))) π = some (!xs.isEmpty) := by
  unfold pB pOp
  rw [e]
  have e2 : (pMk PyData.list pNil) π = some (.list []) := pMk_c rfl (by decide)
  rw [e2]
  show (gNe _ _).bind asB = _
  rw [gNe_nilL h]
  rfl
theorem clean_mes (es : List En) : clean (mesD es) = true := clean_msg (some es)
theorem clean_lane (l : List (List En)) : clean (laneD l) = true := by
  unfold laneD
  simp only [clean]
  exact cleanAll_iff.mpr fun x hx => by obtain ⟨e, _, rfl⟩ := List.mem_map.mp hx; exact clean_mes e
theorem nice_en {n v k : Int} {e : En} (h : e.fits n v k) (hn : n ≤ 3) (hv : v ≤ 3) (hk : k ≤ 2) : Nice 100 2 10 e.D := by
  cases e with
  | par p y t =>
    obtain ⟨h1, h2, h3, h4, h5⟩ := h
    cases t with
    | none => exact (nice_tuple (niceL_cons (W := 10) (D := 1) nice_strp (niceL_cons (W := 14) (nice_small (by omega) (by omega)) (niceL_cons (W := 14) (nice_small (by omega) (by omega)) (niceL_cons (W := 40) (nice_chd (c := none) trivial) (niceL_nil (W := 0))))))).mono
    | some a =>
      have := h5 a rfl
      have ht : Nice 40 1 10 (.tuple [.int a]) := (nice_tuple (niceL_cons (W := 14) (D := 0) (nice_small (by omega) (by omega)) (niceL_nil (W := 0)))).mono
      exact (nice_tuple (niceL_cons (W := 10) (D := 1) nice_strp (niceL_cons (W := 14) (nice_small (by omega) (by omega)) (niceL_cons (W := 14) (nice_small (by omega) (by omega)) (niceL_cons ht (niceL_nil (W := 0))))))).mono
  | kid c x =>
    obtain ⟨h1, h2, h3⟩ := h
    have hs : ChSmall c := by
      cases c with
      | none => trivial
      | some x =>
        obtain ⟨a, p⟩ := x
        have := h1 a p rfl
        show 0 ≤ a ∧ a ≤ 100 ∧ 0 ≤ p ∧ p ≤ 100
        omega
    exact (nice_tup3 (W := 10) nice_strc (nice_chd hs) (nice_small (W := 14) (by omega) (by omega))).mono
theorem nice_mes {n v k : Int} {es : List En} (h : ∀ e ∈ es, e.fits n v k) (hl : es.length ≤ 2) (hn : n ≤ 3) (hv : v ≤ 3) (hk : k ≤ 2) : Nice 210 3 10 (mesD es) :=
  (nice_tuple (niceL_mono_len (W := 100) (D := 2) En.D (fun x hx => nice_en (h x hx) hn hv hk) hl)).mono
theorem nice_tup4 {W V U T D B : Nat} {x y z t : PyData} (h : Nice W D B x) (h2 : Nice V D B y) (h3 : Nice U D B z) (h4 : Nice T D B t) : Nice (W + V + U + T + 11) (D + 1) B (.tuple [x, y, z, t]) := (nice_tuple (niceL_cons h (niceL_cons h2 (niceL_cons h3 (niceL_cons h4 (niceL_nil (W := 0))))))).mono (by omega)
structure Stg where
  s : List Int × Child
  c : List Int × Child
  ls : List (List (List En))
  mr : Int
deriving DecidableEq
def Stg.D (g : Stg) : PyData := .tuple [sD g.s, sD g.c, lanesD g.ls, .int g.mr]
theorem ix_g0 (g : Stg) : gIx g.D (.int 0) = some (sD g.s) := rfl
theorem ix_g1 (g : Stg) : gIx g.D (.int 1) = some (sD g.c) := rfl
theorem ix_g2 (g : Stg) : gIx g.D (.int 2) = some (lanesD g.ls) := rfl
theorem ix_g3 (g : Stg) : gIx g.D (.int 3) = some (.int g.mr) := rfl
inductive Stp where
  | com (c : List Ch)
  | del (k : Int)
  | anew
deriving DecidableEq
def Stp.D : Stp → PyData
  | .com c => .tuple [.str "commit", comD c]
  | .del k => .tuple [.str "deliver", .int k]
  | .anew => .tuple [.str "anew"]
def empt (n : Int) : List Int × Child := (List.replicate n.toNat (-1), none)
def begSt (n : Int) (pl : Plan) : Stg := ⟨empt n, empt n, List.replicate pl.lanes.toNat [], 0⟩
structure StgOk (n v k : Int) (pl : Plan) (g : Stg) : Prop where
  src : SrcOk n v k g.s
  cp : Mid n v k g.c
  ln : (g.ls.length : Int) = pl.lanes
  lt : ∀ l ∈ g.ls, (l.length : Int) ≤ pl.late
  ms : ∀ l ∈ g.ls, ∀ es ∈ l, es.length ≤ 2 ∧ ∀ e ∈ es, e.fits n v k
  mr : 0 ≤ g.mr ∧ g.mr ≤ 2
def pushM : List (List (List En)) → List (Option (List En)) → List (List (List En))
  | l :: ls, m :: ms => (match m with | none => l | some es => l ++ [es]) :: pushM ls ms
  | _, _ => []
def roomy (pl : Plan) : List (List (List En)) → List (Option (List En)) → Bool
  | l :: ls, m :: ms => (m.isNone || decide ((l.length : Int) < pl.late)) && roomy pl ls ms
  | _, _ => true
def sComs (n v k : Int) (j : Bool) (s : List Int × Child) : List (List Ch) := srt comD (allCom n v k j s)
theorem sComs_map (n v k : Int) (j : Bool) (s : List Int × Child) : (sComs n v k j s).map comD = sortedL ((allCom n v k j s).map comD) := srt_map _ _
theorem sComs_mem {n v k : Int} {j : Bool} {s : List Int × Child} {c : List Ch} : c ∈ sComs n v k j s ↔ c ∈ allCom n v k j s := srt_mem
def rawSteps (n v k : Int) (ps : List (List Int)) (j : Bool) (pl : Plan) (g : Stg) : List Stp :=
  (((rngI 0 pl.lanes.toNat).filter fun i => !(g.ls.getD i.toNat []).isEmpty).map .del ++ ((sComs n v k j g.s).filter fun c => roomy pl g.ls (msgs ps pl g.s c)).map .com) ++ if pl.an = .never then [] else [.anew]
def stepsOf (n v k : Int) (ps : List (List Int)) (j : Bool) (pl : Plan) (g : Stg) : List Stp := srt Stp.D (rawSteps n v k ps j pl g)
def markOf (ps : List (List Int)) (g : Stg) (s' c' : List Int × Child) : Int :=
  if c'.2 = none then (if g.mr = 1 ∧ pCh ps s' = true ∧ pCh ps g.s = true then 2 else 0) else if pCh ps s' = true ∧ (g.mr = 1 ∨ g.c.2 = none) then 1 else 0
def nextSt (ps : List (List Int)) (pl : Plan) (g : Stg) : Stp → Stg
  | .com c => ⟨goes c g.s, g.c, pushM g.ls (msgs ps pl g.s c), markOf ps g (goes c g.s) g.c⟩
  | .del k => ⟨g.s, recvs ps pl ((g.ls.getD k.toNat []).headD []) g.c, g.ls.set k.toNat ((g.ls.getD k.toNat []).tail), markOf ps g g.s (recvs ps pl ((g.ls.getD k.toNat []).headD []) g.c)⟩
  | .anew => ⟨g.s, wish ps g.s, if pl.an = .cut then List.replicate pl.lanes.toNat [] else g.ls, markOf ps g g.s (wish ps g.s)⟩
theorem msgs_length {ps : List (List Int)} {pl : Plan} {s : List Int × Child} {cs : List Ch} (h : PlanOk pl) : ((msgs ps pl s cs).length : Int) = pl.lanes := by
  have l1 := h.l1; have l2 := h.l2
  unfold msgs
  split <;> simp <;> omega
inductive StpOk (n v k : Int) (ps : List (List Int)) (j : Bool) (pl : Plan) (g : Stg) : Stp → Prop
  | com {c : List Ch} : c ∈ allCom n v k j g.s → roomy pl g.ls (msgs ps pl g.s c) = true → StpOk n v k ps j pl g (.com c)
  | del {i : Int} : 0 ≤ i → i < pl.lanes → (g.ls.getD i.toNat []) ≠ [] → StpOk n v k ps j pl g (.del i)
  | anew : pl.an ≠ .never → StpOk n v k ps j pl g .anew
theorem raw_ok {n v k : Int} {ps : List (List Int)} {j : Bool} {pl : Plan} {g : Stg} {st : Stp} : st ∈ rawSteps n v k ps j pl g ↔ StpOk n v k ps j pl g st := by
  unfold rawSteps
  simp only [List.mem_append, List.mem_map, List.mem_filter]
  constructor
  · rintro ((⟨i, ⟨hi, he⟩, rfl⟩ | ⟨c, ⟨hc, hr⟩, rfl⟩) | h)
    · have := rngI_mem.mp hi
      refine .del (by omega) (by omega) fun e => ?_
      rw [e] at he
      cases he
    · exact .com (sComs_mem.mp hc) hr
    · split at h
      · cases h
      · rename_i ha
        obtain rfl := List.mem_singleton.mp h
        exact .anew ha
  · intro h
    cases h with
    | com h1 h2 => exact .inl (.inr ⟨_, ⟨sComs_mem.mpr h1, h2⟩, rfl⟩)
    | del h1 h2 h3 => exact .inl (.inl ⟨_, ⟨rngI_mem.mpr (by omega), by simpa using h3⟩, rfl⟩)
    | anew h => exact .inr (by rw [if_neg h]; simp)
theorem steps_ok {n v k : Int} {ps : List (List Int)} {j : Bool} {pl : Plan} {g : Stg} {st : Stp} : st ∈ stepsOf n v k ps j pl g ↔ StpOk n v k ps j pl g st := srt_mem.trans raw_ok
theorem s_dc : (("deliver" : Str) == ("commit" : Str)) = false := by decide +kernel
theorem s_cd : (("commit" : Str) == ("deliver" : Str)) = false := by decide +kernel
theorem s_da : (("deliver" : Str) == ("anew" : Str)) = false := by decide +kernel
theorem s_ad : (("anew" : Str) == ("deliver" : Str)) = false := by decide +kernel
theorem s_ac : (("anew" : Str) == ("commit" : Str)) = false := by decide +kernel
theorem s_ca : (("commit" : Str) == ("anew" : Str)) = false := by decide +kernel
theorem clean_stp (x : Stp) : clean x.D = true := by
  cases x with
  | com c => unfold Stp.D; simp only [clean, cleanAll, clean_com, Bool.and_self]
  | del k => rfl
  | anew => rfl
theorem lay_stp (x : Stp) : x.D.canLay0 = true := by
  have h1 : (PyData.str "commit").canLay0 = true := by simp only [PyData.canLay0]; decide +kernel
  have h2 : (PyData.str "deliver").canLay0 = true := by simp only [PyData.canLay0]; decide +kernel
  have h3 : (PyData.str "anew").canLay0 = true := by simp only [PyData.canLay0]; decide +kernel
  cases x with
  | com c => exact lay_tup (by intro y hy; simp only [List.mem_cons, List.not_mem_nil, or_false] at hy; rcases hy with rfl | rfl; exact h1; exact lay_com c)
  | del k => exact lay_tup (by intro y hy; simp only [List.mem_cons, List.not_mem_nil, or_false] at hy; rcases hy with rfl | rfl; exact h2; rfl)
  | anew => exact lay_tup (by intro y hy; simp only [List.mem_cons, List.not_mem_nil, or_false] at hy; subst hy; exact h3)
theorem depth_stp (x : Stp) : x.D.depth ≤ 4 := by
  cases x with
  | com c => have := depth_com c; simp only [Stp.D, PyData.depth, PyData.depthAll]; omega
  | del k => simp [Stp.D, PyData.depth, PyData.depthAll]
  | anew => simp [Stp.D, PyData.depth, PyData.depthAll]
theorem semi_ss (a b : Str) (xs ys : List PyData) (h : a = b → PySem.W.semiAll xs ys = true) : PySem.W.semi (.tuple (.str a :: xs)) (.tuple (.str b :: ys)) = true := by
  rw [PySem.W.semi, PySem.W.semiAll]
  by_cases e : a = b
  · subst e
    rw [if_pos (by simp [PyData.eqv])]
    exact h rfl
  · rw [if_neg (by simpa [PyData.eqv] using e)]
    rfl
theorem semi_stp (x y : Stp) : PySem.W.semi x.D y.D = true := by
  have hs : ∀ {a b : Str}, (a == b) = false → a ≠ b := fun h e => by subst e; simp at h
  cases x <;> cases y <;> refine semi_ss _ _ _ _ fun e => ?_
  · exact semiAll_of fun a ha b hb => by
      obtain rfl := List.mem_singleton.mp ha
      obtain rfl := List.mem_singleton.mp hb
      exact semi_com _ _
  · exact absurd e (hs s_cd)
  · exact absurd e (hs s_ca)
  · exact absurd e (hs s_dc)
  · exact semiAll_of fun a ha b hb => by
      obtain rfl := List.mem_singleton.mp ha
      obtain rfl := List.mem_singleton.mp hb
      rfl
  · exact absurd e (hs s_da)
  · exact absurd e (hs s_ac)
  · exact absurd e (hs s_ad)
  · rfl
theorem Stp.D_inj {a b : Stp} (h : a.D = b.D) : a = b := by
  have hs : ∀ {a b : Str}, (a == b) = false → a ≠ b := fun h e => by subst e; simp at h
  cases a <;> cases b <;> simp only [Stp.D, PyData.tuple.injEq, List.cons.injEq, and_true, PyData.str.injEq, PyData.int.injEq, true_and, reduceCtorEq, and_false] at h
  · rw [comD_inj h]
  · exact absurd h.1 (hs s_cd)
  · exact absurd h.1 (hs s_dc)
  · rw [h]
  · rfl
theorem semiOk_stps (l : List Stp) : PySem.W.SemiOk (l.map Stp.D) where
  sm := fun d hd d' hd' => by
    obtain ⟨a, _, rfl⟩ := List.mem_map.mp hd
    obtain ⟨b, _, rfl⟩ := List.mem_map.mp hd'
    exact semi_stp a b
  ne := fun d hd => by
    obtain ⟨a, ha, rfl⟩ := List.mem_map.mp hd
    cases a <;> exact ⟨_, _, rfl⟩
  ty := fun x r x' r' h1 h2 => by
    obtain ⟨a, ha, e1⟩ := List.mem_map.mp h1
    obtain ⟨b, hb, e2⟩ := List.mem_map.mp h2
    cases a <;> cases b <;> simp only [Stp.D, PyData.tuple.injEq, List.cons.injEq] at e1 e2 <;> rw [← e1.1, ← e2.1] <;> rfl
  ly := fun d hd => by obtain ⟨a, _, rfl⟩ := List.mem_map.mp hd; exact lay_stp a
  dp := fun d hd => by obtain ⟨a, _, rfl⟩ := List.mem_map.mp hd; exact Nat.le_trans (depth_stp a) (by decide)
theorem raw_steps_len {n v k : Int} {ps : List (List Int)} {j : Bool} {pl : Plan} {g : Stg} (hc : CaseOk n v k ps) (hp : PlanOk pl) (hs : SrcOk n v k g.s) : (rawSteps n v k ps j pl g).length ≤ 203 := by
  have l2 := hp.l2
  have h1 : ((rngI 0 pl.lanes.toNat).filter fun i => !(g.ls.getD i.toNat []).isEmpty).length ≤ 2 := Nat.le_trans (List.length_filter_le _ _) (by simp [rngI]; omega)
  have h2 : ((sComs n v k j g.s).filter fun c => roomy pl g.ls (msgs ps pl g.s c)).length ≤ 200 := Nat.le_trans (List.length_filter_le _ _) (by unfold sComs; rw [srt_len]; exact allCom_len hc hs)
  unfold rawSteps
  rw [List.length_append, List.length_append, List.length_map, List.length_map]
  split <;> simp only [List.length_nil, List.length_cons] <;> omega
theorem nice_strw {s : Str} {W D : Nat} (h : (decide (wt (.str s) ≤ 11) && decide ((PyData.str s).depth ≤ 0) && fits 10 (.str s)) = true) (hw : 11 ≤ W := by omega) : Nice W D 10 (.str s) := (nice_mk (W := 11) (D := 0) (B := 10) h).mono
theorem nice_stp {n v k : Int} {ps : List (List Int)} {j : Bool} {pl : Plan} {g : Stg} {st : Stp} (hc : CaseOk n v k ps) (hp : PlanOk pl) (hs : SrcOk n v k g.s) (h : StpOk n v k ps j pl g st) : Nice 180 4 10 st.D := by
  have l2 := hp.l2
  cases h with
  | com h1 h2 => exact (nice_tup2 (W := 11) (D := 3) (nice_strw (by decide +kernel)) (nice_com (allCom_in hs.len h1) hc.n3 hc.v3 hc.k2)).mono
  | del h1 h2 h3 => exact (nice_tup2 (W := 11) (D := 3) (nice_strw (by decide +kernel)) (nice_small (W := 14) (by omega) (by omega))).mono
  | anew h => exact (nice_tuple (niceL_cons (W := 11) (D := 3) (nice_strw (by decide +kernel)) (niceL_nil (W := 0)))).mono
theorem nice_lane {n v k : Int} {l : List (List En)} (h : ∀ es ∈ l, es.length ≤ 2 ∧ ∀ e ∈ es, e.fits n v k) (hl : l.length ≤ 2) (hn : n ≤ 3) (hv : v ≤ 3) (hk : k ≤ 2) : Nice 430 4 10 (laneD l) :=
  (nice_tuple (niceL_mono_len (W := 210) (D := 3) mesD (fun x hx => nice_mes (h x hx).2 (h x hx).1 hn hv hk) hl)).mono
theorem nice_stg {n v k : Int} {ps : List (List Int)} {pl : Plan} {g : Stg} (hc : CaseOk n v k ps) (hp : PlanOk pl) (h : StgOk n v k pl g) : Nice 1140 6 10 g.D := by
  have l2 := hp.l2; have a2 := hp.a2; have n3 := hc.n3; have v3 := hc.v3; have k2 := hc.k2
  have m0 := h.mr
  have hlen := h.ln
  have hl : Nice 870 5 10 (lanesD g.ls) := (nice_tuple (niceL_mono_len (W := 430) (D := 4) laneD (fun x hx => nice_lane (h.ms x hx) (by have := h.lt x hx; omega) n3 v3 k2) (m := 2) (by omega))).mono
  exact (nice_tup4 ((nice_srcM h.src.mid n3 v3 k2).mono (W' := 110) (D' := 5)) ((nice_srcM h.cp n3 v3 k2).mono (W' := 110) (D' := 5)) hl (nice_small (W := 14) (D := 5) (by omega) (by omega))).mono
theorem msgs_le (ps : List (List Int)) (pl : Plan) (s : List Int × Child) (cs : List Ch) : (msgs ps pl s cs).length ≤ 2 ∧ ∀ es, some es ∈ msgs ps pl s cs → es.length ≤ cs.length := by
  have hl := sentE_len ps pl s cs
  unfold msgs
  split
  · refine ⟨by simp, fun es h => ?_⟩
    simp only [List.mem_cons, List.not_mem_nil, or_false, Option.some.injEq] at h
    subst h
    exact hl
  · refine ⟨by simp, fun es h => ?_⟩
    have l1 : ∀ q : En → Bool, ((sentE ps pl s cs).filter q).length ≤ cs.length := fun q => Nat.le_trans (List.length_filter_le _ _) hl
    simp only [List.mem_cons, List.not_mem_nil, or_false] at h
    rcases h with h | h <;> split at h <;> first | (obtain rfl := Option.some.inj h; exact l1 _) | cases h
theorem pushM_mem : ∀ {ls : List (List (List En))} {ms : List (Option (List En))} {l : List (List En)}, l ∈ pushM ls ms → ∃ l0 ∈ ls, l = l0 ∨ ∃ es, some es ∈ ms ∧ l = l0 ++ [es]
  | [], _, l, h => by simp [pushM] at h
  | _ :: _, [], l, h => by simp [pushM] at h
  | l0 :: ls, m :: ms, l, h => by
    unfold pushM at h
    rcases List.mem_cons.mp h with h | h
    · cases m with
      | none => exact ⟨l0, by simp, .inl h⟩
      | some es => exact ⟨l0, by simp, .inr ⟨es, by simp, h⟩⟩
    · obtain ⟨l1, h1, h2⟩ := pushM_mem h
      refine ⟨l1, by simp [h1], ?_⟩
      rcases h2 with h2 | ⟨es, h2, h3⟩
      · exact .inl h2
      · exact .inr ⟨es, by simp [h2], h3⟩
theorem pushM_len : ∀ {ls : List (List (List En))} {ms : List (Option (List En))}, ls.length = ms.length → (pushM ls ms).length = ls.length
  | [], [], _ => rfl
  | [], _ :: _, h => by simp at h
  | _ :: _, [], h => by simp at h
  | l :: ls, m :: ms, h => by
    unfold pushM
    rw [List.length_cons, List.length_cons, pushM_len (by simpa using h)]
theorem pushM_lt {pl : Plan} : ∀ {ls : List (List (List En))} {ms : List (Option (List En))}, (∀ l ∈ ls, (l.length : Int) ≤ pl.late) → roomy pl ls ms = true → ∀ l ∈ pushM ls ms, (l.length : Int) ≤ pl.late
  | [], _, _, _, l, h => by simp [pushM] at h
  | _ :: _, [], _, _, l, h => by simp [pushM] at h
  | l0 :: ls, m :: ms, hl, hr, l, h => by
    unfold roomy at hr
    rw [Bool.and_eq_true] at hr
    unfold pushM at h
    rcases List.mem_cons.mp h with h | h
    · have := hl l0 (by simp)
      cases m with
      | none => rw [h]; exact this
      | some es =>
        have hr1 := hr.1
        simp only [Option.isNone, Bool.false_or, decide_eq_true_eq] at hr1
        rw [h, List.length_append, List.length_singleton]
        omega
    · exact pushM_lt (fun x hx => hl x (by simp [hx])) hr.2 l h
theorem markOf_in (ps : List (List Int)) (g : Stg) (s' c' : List Int × Child) : 0 ≤ markOf ps g s' c' ∧ markOf ps g s' c' ≤ 2 := by
  unfold markOf
  split <;> split <;> omega
theorem StgOk.next {n v k : Int} {ps : List (List Int)} {j : Bool} {pl : Plan} {g : Stg} {st : Stp} (hc : CaseOk n v k ps) (hp : PlanOk pl) (h : StgOk n v k pl g) (hs : StpOk n v k ps j pl g st) : StgOk n v k pl (nextSt ps pl g st) := by
  have l1 := hp.l1; have v1 := hc.v1; have a1 := hp.a1
  cases hs with
  | @com c h1 h2 =>
    have hin := allCom_in h.src.len h1
    have hml : (msgs ps pl g.s c).length = g.ls.length := by have := msgs_length (ps := ps) (s := g.s) (cs := c) hp; have := h.ln; omega
    refine ⟨allCom_ok h.src h1, h.cp, ?_, pushM_lt h.lt h2, fun l hl es he => ?_, markOf_in _ _ _ _⟩
    · show ((pushM _ _).length : Int) = _
      rw [pushM_len hml.symm]; exact h.ln
    · obtain ⟨l0, h3, h4⟩ := pushM_mem hl
      have hml2 := msgs_le ps pl g.s c
      rcases h4 with rfl | ⟨e2, h4, rfl⟩
      · exact h.ms _ h3 es he
      · rcases List.mem_append.mp he with he | he
        · exact h.ms _ h3 es he
        · obtain rfl := List.mem_singleton.mp he
          exact ⟨Nat.le_trans (hml2.2 _ h4) hin.len, msgs_fits (by omega) h.src.mid hin.fits _ h4⟩
  | @del i h1 h2 h3 =>
    have hi : i.toNat < g.ls.length := by have := h.ln; omega
    have hg : g.ls.getD i.toNat [] = g.ls[i.toNat] := by simp [hi]
    have hm : g.ls[i.toNat] ∈ g.ls := List.getElem_mem hi
    obtain ⟨es, r, e⟩ : ∃ es r, g.ls.getD i.toNat [] = es :: r := by
      cases hh : g.ls.getD i.toNat [] with
      | nil => exact absurd hh h3
      | cons a b => exact ⟨a, b, rfl⟩
    have hes : es ∈ g.ls[i.toNat] := by rw [← hg, e]; simp
    refine ⟨h.src, ?_, ?_, fun l hl => ?_, fun l hl => ?_, markOf_in _ _ _ _⟩
    · show Mid n v k (recvs ps pl ((g.ls.getD i.toNat []).headD []) g.c)
      rw [e]
      exact h.cp.recvs ((h.ms _ hm es hes).2)
    · show ((g.ls.set _ _).length : Int) = _
      rw [List.length_set]; exact h.ln
    · rcases List.mem_or_eq_of_mem_set hl with hl | rfl
      · exact h.lt l hl
      · have := h.lt _ hm
        rw [hg, List.length_tail]
        omega
    · rcases List.mem_or_eq_of_mem_set hl with hl | rfl
      · exact h.ms l hl
      · intro es he
        rw [hg] at he
        exact h.ms _ hm es (List.mem_of_mem_tail he)
  | anew h1 =>
    have hk : ∀ l ∈ (nextSt ps pl g .anew).ls, l = [] ∨ l ∈ g.ls := fun l hl => by
      simp only [nextSt] at hl
      split at hl
      · exact .inl (List.eq_of_mem_replicate hl)
      · exact .inr hl
    refine ⟨h.src, h.src.mid.wish (by omega), ?_, fun l hl => ?_, fun l hl => ?_, markOf_in _ _ _ _⟩
    · simp only [nextSt]
      split
      · simp; omega
      · exact h.ln
    · rcases hk l hl with rfl | hl
      · simp; omega
      · exact h.lt l hl
    · rcases hk l hl with rfl | hl
      · intro es he; cases he
      · exact h.ms l hl
theorem begSt_ok {n v k : Int} {ps : List (List Int)} {pl : Plan} (hc : CaseOk n v k ps) (hp : PlanOk pl) : StgOk n v k pl (begSt n pl) := by
  have l1 := hp.l1; have a1 := hp.a1
  refine ⟨src0 hc, (src0 hc).mid, by simp [begSt]; omega, fun l hl => ?_, fun l hl => ?_, by simp [begSt]⟩
  · obtain rfl := List.eq_of_mem_replicate hl
    simp; omega
  · obtain rfl := List.eq_of_mem_replicate hl
    intro es he; cases he
end DL
namespace Law
open PySem PySem.Spec L2 RZ DL
open PyProof.Rows hiding St
local macro_rules | `(tactic| walk_at "dl") => `(tactic| try simp only [wSeq, wIfS, wRet, wRetN, wB, wOp, wV, wC, wAndV, wOrV, wNotV, bOf, wNotT, wAndT, wOrT, wChain, iOp_e1, iOp0_e1, addD_e1, addD_e2, addD_e3, addD_e4, addD_e5, addD_e6, addD_e7, eqD_e1, inD_e1, inD_e2, isND_e1, isND_e2, wCall, wCons, wNil, wCB, isiK, isOne, isTwo, lenD_e1, lenD_e2, lenD_e3, lenD_e4, ixD_e1, ixD_e2, ixD_e3, ixD_e4, moL_e1, moL_e2, startD, wAsg, gNameD, intD_e1, mulD, mkD, wSetIx, wLstM, wTupM, wSl, wPart, wNoPart, slD_e1, slD_e2, slD_e3, slD_e4, wDrop, wNext, wPar, wMtL, appD_e1, extD_e1, listD_e1, listD_e2, listD_e3, listM_e1, listM_e2, listM_e3, tupleD_e1, tupleD_e2, tupleD_e3, srcR1, srcR2, srcE, srcZ, srcS, srcZs, zipT2_e1, wSS, srcEt, enumT1_e1, sortSD_e1, sortSM_e1, repD_e1, repLD_e1, intBD_e1, intBD_e2, seqD_e1, seqD_e2, seqD_e3, reprD_e1, allQ_e1, wIf, wNeg, wFor, gTupD, gConsD, gNilD, allD, allD_map, DL.allB, Option.map_some, List.map, List.length_cons, List.length_nil, List.replicate, List.nil_append, List.cons_append, List.getElem?_cons_zero, List.getElem?_cons_succ, List.set_cons_zero, List.set_cons_succ, Nat.reduceSub, Nat.reduceLT, atI_lit, ixN_lit, cutD_ll, cutD_l, cutD_u, mupd_same, mupd_mupd, Nat.reduceAdd, wipeD, isTy_int_none, isTy_int_bool, isTy_int_int, isTy_int_str, isTy_int_list, isTy_int_tuple, isTy_int_dict, isTy_bool_none, isTy_bool_bool, isTy_bool_int, isTy_bool_str, isTy_bool_list, isTy_bool_tuple, isTy_bool_dict, isTy_str_none, isTy_str_bool, isTy_str_int, isTy_str_str, isTy_str_list, isTy_str_tuple, isTy_str_dict, isTy_list_none, isTy_list_bool, isTy_list_int, isTy_list_str, isTy_list_list, isTy_list_tuple, isTy_list_dict, isTy_tuple_none, isTy_tuple_bool, isTy_tuple_int, isTy_tuple_str, isTy_tuple_list, isTy_tuple_tuple, isTy_tuple_dict, isTy_dict_none, isTy_dict_bool, isTy_dict_int, isTy_dict_str, isTy_dict_list, isTy_dict_tuple, isTy_dict_dict, isTyM_int_lst, isTyM_int_tup, isTyM_bool_lst, isTyM_bool_tup, isTyM_str_lst, isTyM_str_tup, isTyM_list_lst, isTyM_list_tup, isTyM_tuple_lst, isTyM_tuple_tup, isTyM_dict_lst, isTyM_dict_tup, wFrz, wRev, revD_e1, revD_e2, revD_e3, wPar3, optD_e1, lstMD, sortD_e1, sortM_e1, bOp_e1, bOp_e2, bOp_e3, cmpD_e1, Option.bind_some, eqOk_int, eqOk_bool, eqOk_ib, eqOk_bi, eqOk_str, eqv_int, eqv_bool, eqv_str, shaped_bool, shaped_int, shaped_none, BEq.rfl, Bool.or_true, Bool.or_false, Bool.true_or, Bool.false_or, Bool.not_true, Bool.not_false, Bool.and_true, Bool.and_false, Bool.true_and, Bool.false_and, eq_self, true_and, if_true, if_false, Bool.false_eq_true])
def top (i : Nat) : Stmt := PySem.Challenge.pw_somerows_k02_sources_recognized.main.body.getD i (.Pass ⟨0, 0, 0, 0⟩)
structure Txt (K : PySem.W.Frag) (mg : Str → Option Value) : Prop where
  b_all : mg "all" = none
  b_any : mg "any" = none
  b_bool : mg "bool" = none
  b_enumerate : mg "enumerate" = none
  b_int : mg "int" = none
  b_isinstance : mg "isinstance" = none
  b_len : mg "len" = none
  b_list : mg "list" = none
  b_range : mg "range" = none
  b_repr : mg "repr" = none
  b_sorted : mg "sorted" = none
  b_str : mg "str" = none
  b_tuple : mg "tuple" = none
  b_zip : mg "zip" = none
  g_ABSENT : GI mg "ABSENT" (-1)

noncomputable def F_is_integer : FS :=
  (pRet (pAndV (pIsi (isTy .int) (pV 0)) (pUn gNot (pIsi (isTy .bool) (pV 0)))))
noncomputable def f_is_integer : List PyData → Option PyData := runP 1 F_is_integer
abbrev sp_is_integer : SpD := spP 1 f_is_integer
theorem cs_is_integer : CbS sp_is_integer f_is_integer := cbs_spP runP_len
noncomputable def F_is_within : FS :=
  (pRet (pAndV (pCall f_is_integer (pCons (pV 0) pNil)) (pChain gLe gLe (pV 1) (pV 0) (pV 2))))
noncomputable def f_is_within : List PyData → Option PyData := runP 3 F_is_within
abbrev sp_is_within : SpD := spP 3 f_is_within
theorem cs_is_within : CbS sp_is_within f_is_within := cbs_spP runP_len
noncomputable def C_value_passes_1 : FE :=
  (pLc (pSeqI (pOp gIx (pV 0) (pC (.int 3)))) (qName 2) pYes (pOp gEq (pOp gIx (pV 2) (pC (.int 1))) (pV 1)) [2])
noncomputable def F_value_passes : FS :=
  (pRet (pCall gAny (pCons C_value_passes_1 pNil)))
noncomputable def f_value_passes : List PyData → Option PyData := runP 2 F_value_passes
abbrev sp_value_passes : SpD := spP 2 f_value_passes
theorem cs_value_passes : CbS sp_value_passes f_value_passes := cbs_spP runP_len
noncomputable def F_pair_passes : FS :=
  (pRet (pOp (gIn false) (pMk .tuple (pCons (pV 1) (pCons (pV 2) pNil))) (pOp gIx (pV 0) (pC (.int 3)))))
noncomputable def f_pair_passes : List PyData → Option PyData := runP 3 F_pair_passes
abbrev sp_pair_passes : SpD := spP 3 f_pair_passes
theorem cs_pair_passes : CbS sp_pair_passes f_pair_passes := cbs_spP runP_len
noncomputable def F_is_parent_state : FS :=
  (pRet (pCall f_is_within (pCons (pV 1) (pCons (pC (.int (-1))) (pCons (pOp gSub (pOp gIx (pV 0) (pC (.int 1))) (pC (.int 1))) pNil)))))
noncomputable def f_is_parent_state : List PyData → Option PyData := runP 2 F_is_parent_state
abbrev sp_is_parent_state : SpD := spP 2 f_is_parent_state
theorem cs_is_parent_state : CbS sp_is_parent_state f_is_parent_state := cbs_spP runP_len
noncomputable def F_is_child_state : FS :=
  (pSeq (pIfS (pB (pOp gEq0 (pV 1) (pMk .tuple pNil))) (pRet (pIsi (isTy .tuple) (pV 1))) pNext)
  (pSeq (pIfS (pOrT (pNotT (pB (pIsi (isTy .tuple) (pV 1)))) (pB (pOp gNe (pCall gLen (pCons (pV 1) pNil)) (pC (.int 2))))) (pRet (pC (.bool false))) pNext)
  (pRet (pAndV (pCall f_is_within (pCons (pOp gIx (pV 1) (pC (.int 0))) (pCons (pC (.int 0)) (pCons (pOp gSub (pOp gIx (pV 0) (pC (.int 2))) (pC (.int 1))) pNil)))) (pCall f_is_within (pCons (pOp gIx (pV 1) (pC (.int 1))) (pCons (pC (.int 0)) (pCons (pOp gSub (pOp gIx (pV 0) (pC (.int 0))) (pC (.int 1))) pNil))))))))
noncomputable def f_is_child_state : List PyData → Option PyData := runP 2 F_is_child_state
abbrev sp_is_child_state : SpD := spP 2 f_is_child_state
theorem cs_is_child_state : CbS sp_is_child_state f_is_child_state := cbs_spP runP_len
noncomputable def C_are_states_1 : FE :=
  (pLc (pSeqI (pOp gIx (pV 1) (pC (.int 0)))) (qName 2) pYes (pCall f_is_parent_state (pCons (pV 0) (pCons (pV 2) pNil))) [2])
noncomputable def F_are_states : FS :=
  (pSeq (pIfS (pOrT (pNotT (pB (pIsi (isTy .tuple) (pV 1)))) (pOrT (pB (pOp gNe (pCall gLen (pCons (pV 1) pNil)) (pC (.int 2)))) (pNotT (pB (pIsi (isTy .tuple) (pOp gIx (pV 1) (pC (.int 0)))))))) (pRet (pC (.bool false))) pNext)
  (pSeq (pIfS (pOrT (pB (pOp gNe (pCall gLen (pCons (pOp gIx (pV 1) (pC (.int 0))) pNil)) (pOp gIx (pV 0) (pC (.int 0))))) (pNotT (pB (pCall gAll (pCons C_are_states_1 pNil))))) (pRet (pC (.bool false))) pNext)
  (pRet (pCall f_is_child_state (pCons (pV 0) (pCons (pOp gIx (pV 1) (pC (.int 1))) pNil))))))
noncomputable def f_are_states : List PyData → Option PyData := runP 2 F_are_states
abbrev sp_are_states : SpD := spP 2 f_are_states
theorem cs_are_states : CbS sp_are_states f_are_states := cbs_spP runP_len
noncomputable def F_is_source : FS :=
  (pSeq (pIfS (pNotT (pB (pCall f_are_states (pCons (pV 0) (pCons (pV 1) pNil))))) (pRet (pC (.bool false))) pNext)
  (pSeq (pAsg (qTup 2 (qCons (qName 2) (qCons (qName 3) qNil))) (pV 1))
  (pRet (pOrV (pOp gEq (pV 3) (pMk .tuple pNil)) (pOp gNe (pOp gIx (pV 2) (pOp gIx (pV 3) (pC (.int 1)))) (pC (.int (-1))))))))
noncomputable def f_is_source : List PyData → Option PyData := runP 2 F_is_source
abbrev sp_is_source : SpD := spP 2 f_is_source
theorem cs_is_source : CbS sp_is_source f_is_source := cbs_spP runP_len
noncomputable def F_state_passes : FS :=
  (pRet (pAndV (pOp gNe (pV 2) (pMk .tuple pNil)) (pCall f_pair_passes (pCons (pV 0) (pCons (pOp gIx (pV 2) (pC (.int 0))) (pCons (pOp gIx (pV 1) (pOp gIx (pV 2) (pC (.int 1)))) pNil))))))
noncomputable def f_state_passes : List PyData → Option PyData := runP 3 F_state_passes
abbrev sp_state_passes : SpD := spP 3 f_state_passes
theorem cs_state_passes : CbS sp_state_passes f_state_passes := cbs_spP runP_len
noncomputable def F_child_passes : FS :=
  (pRet (pCall f_state_passes (pCons (pV 0) (pCons (pOp gIx (pV 1) (pC (.int 0))) (pCons (pOp gIx (pV 1) (pC (.int 1))) pNil)))))
noncomputable def f_child_passes : List PyData → Option PyData := runP 2 F_child_passes
abbrev sp_child_passes : SpD := spP 2 f_child_passes
theorem cs_child_passes : CbS sp_child_passes f_child_passes := cbs_spP runP_len
noncomputable def C_wished_1 : FE :=
  (pLc (pSeqI (pOp gIx (pV 1) (pC (.int 0)))) (qName 3) pYes (pIf (pB (pCall f_value_passes (pCons (pV 0) (pCons (pV 3) pNil)))) (pV 3) (pC (.int (-1)))) [3])
noncomputable def F_wished : FS :=
  (pSeq (pSet 2 (pCall gTuple (pCons C_wished_1 pNil)))
  (pRet (pMk .tuple (pCons (pV 2) (pCons (pIf (pB (pCall f_child_passes (pCons (pV 0) (pCons (pV 1) pNil)))) (pOp gIx (pV 1) (pC (.int 1))) (pMk .tuple pNil)) pNil)))))
noncomputable def f_wished : List PyData → Option PyData := runP 2 F_wished
abbrev sp_wished : SpD := spP 2 f_wished
theorem cs_wished : CbS sp_wished f_wished := cbs_spP runP_len
def sp__law_open : SpD := fun ds M Q => ∃ ns, ds = [.s ns] ∧ ns.length ≤ 63 ∧ ∀ p mo, M p = none → PenMO 0 mo → Q (.r p) (mupd M p mo)
/-- what the body itself hands back -/
def spq__law_open : SpD := fun ds M Q => ∃ ns, ds = [.s ns] ∧ ∀ c p (cs : List Int), c ≠ p → M c = none → M p = none → Q (.r p) (mupd (mupd M c (.lst (cs.map fun i => .d (.int i)))) p (.lst [.r c, .d (.int 0), .d (.int 0)]))

def sp__law_spread : SpD := fun ds M Q => ∃ c a : Int, ds = [.d (.int c), .d (.int a)] ∧ 0 ≤ a ∧ a ≤ 1048576 ∧ ∀ r : Int, Q (.d (.int r)) M
def primesL : List PyData := [.int 2147483629, .int 2147483587, .int 2147483579, .int 2147483563, .int 2147483549, .int 2147483543, .int 2147483497, .int 2147483489, .int 2147483477, .int 2147483423, .int 2147483399, .int 2147483353, .int 2147483323]
theorem primes_ok {i : Int} (h0 : 0 ≤ i) (h1 : i < 13) : ∃ p : Int, L2.atI primesL i = some (.int p) ∧ 0 < p ∧ p < 2147483648 := primes_at primesL 13 (by decide) rfl h0 h1

def sp__law_take : SpD := fun ds M Q => ∃ a m n mo, ds = [.r a, .d (.int m)] ∧ M a = some mo ∧ PenMO n mo ∧ n < 1000000 ∧ 1 ≤ m ∧ m < 1073741824 ∧ ∀ r mo', 0 ≤ r → r < m → PenMO (n + 1) mo' → Q (.d (.int r)) (mupd M a mo')
def u__law_take : UF := fun vs n Z => ∃ m : Int, vs = [.pen, .d (.int m)] ∧ n < 1000000 ∧ 1 ≤ m ∧ m < 1073741824 ∧ ∀ r, 0 ≤ r → r < m → Z (.d (.int r)) (n + 1)
theorem cw__law_take : CallW sp__law_take u__law_take := fun a vs M mo n Q Z hM hp ⟨m, e, h1, h2, h3, h4⟩ hq => by
  subst e
  exact ⟨a, m, n, mo, rfl, hM, hp, h1, h2, h3, fun r mo' r0 r1 p => hq _ _ _ (h4 r r0 r1) p⟩
/-- data that _law_same can be asked about, n deep -/
def Samey : Nat → PyData → Prop
  | 0, _ => False
  | _ + 1, .none => True
  | _ + 1, .bool _ => True
  | _ + 1, .int _ => True
  | _ + 1, .str _ => True
  | n + 1, .list xs => xs.length ≤ sizeLine ∧ ∀ x ∈ xs, Samey n x
  | n + 1, .tuple xs => xs.length ≤ sizeLine ∧ ∀ x ∈ xs, Samey n x
  | _ + 1, .dict _ => False
def sameR (n : Nat) (xs : List PyData) (r : PyData) : Prop := ∃ x, xs = [x, x] ∧ Samey n x ∧ r = .bool true
def spr__law_same (n : Nat) : SpD := spPure (sameR n)
def sp__law_same : SpD := spView (sameR 20)
theorem zip_self (f : PyData → PyData) : ∀ xs : List PyData, zipD xs xs = xs.map fun x => DV.d (.tuple [x, x])
  | [] => rfl
  | x :: xs => by simp [zipD, zip_self f xs]
theorem same_go {a b : DV} {x : PyData} {M : Mem} {Q : DQ} (ha : viewD M a = some x) (hb : viewD M b = some x) (hs : Samey 20 x) (k : Q (.d (.bool true)) M) : sp__law_same [a, b] M Q :=
  ⟨[x, x], .bool true, by simp [viewL, ha, hb], ⟨x, rfl, hs, rfl⟩, rfl, k⟩
theorem DFn.never {P : Program} {w : World} {K : PySem.W.Frag} {mg : Str → Option Value} {base : Heap} {k : Nat} {f : Addr} {fd : FuncData} {ps : List Str} {sp : SpD} (h : ∀ ds M Q, ¬ sp ds M Q) : DFn P w K mg base k f fd ps sp :=
  ⟨fun vs H Q E ⟨_, _, _, _, _, q, _⟩ => absurd q (h _ _ _), fun _ _ _ _ _ _ _ _ _ _ _ _ _ _ ⟨_, _, _, _, _, q, _⟩ => absurd q (h _ _ _)⟩
open Classical in
noncomputable def f__law_same : List PyData → Option PyData := fun xs => match xs with
  | [x, y] => if x = y ∧ Samey 20 x then some (.bool true) else none
  | _ => none
theorem cv__law_same : CbV sp__law_same f__law_same := fun ds xs z M Q hv h q => by
  unfold f__law_same at h
  split at h
  · split at h
    · rename_i hs
      cases h
      obtain ⟨rfl, hs⟩ := hs
      exact ⟨_, _, hv, ⟨_, rfl, hs, rfl⟩, rfl, q⟩
    · cases h
  · cases h
theorem take_go {a : Addr} {m : Int} {n : Nat} {mo : MO} {M : Mem} {Q : DQ} (hM : M a = some mo) (hp : PenMO n mo) (hn : n < 1000000) (h1 : 1 ≤ m) (h2 : m < 1073741824)
    (k : ∀ r mo', 0 ≤ r → r < m → PenMO (n + 1) mo' → Q (.d (.int r)) (mupd M a mo')) : sp__law_take [.r a, .d (.int m)] M Q := ⟨a, m, n, mo, rfl, hM, hp, hn, h1, h2, k⟩
theorem take_ite {c : Bool} {a : Addr} {m1 m2 : Int} {M : Mem} {Q : DQ} (h : ∀ m, m = m1 ∨ m = m2 → sp__law_take [.r a, .d (.int m)] M Q) : if c = true then sp__law_take [.r a, .d (.int m1)] M Q else sp__law_take [.r a, .d (.int m2)] M Q := by
  split
  · exact h _ (.inl rfl)
  · exact h _ (.inr rfl)
def sp__law_one_of : SpD := fun ds M Q => ∃ a n mo xs, ds = [.r a, .d (.list xs)] ∧ M a = some mo ∧ PenMO n mo ∧ n < 1000000 ∧ 1 ≤ xs.length ∧ xs.length < 1073741824 ∧ ∀ x ∈ xs, ∀ mo', PenMO (n + 1) mo' → Q (.d x) (mupd M a mo')
theorem one_go {a : Addr} {xs : List PyData} {n : Nat} {mo : MO} {M : Mem} {Q : DQ} (hM : M a = some mo) (hp : PenMO n mo) (hn : n < 1000000) (h1 : 1 ≤ xs.length) (h2 : xs.length < 1073741824)
    (k : ∀ x ∈ xs, ∀ mo', PenMO (n + 1) mo' → Q (.d x) (mupd M a mo')) : sp__law_one_of [.r a, .d (.list xs)] M Q := ⟨a, n, mo, xs, rfl, hM, hp, hn, h1, h2, k⟩
def u__law_one_of : UF := fun vs n Z => ∃ xs : List PyData, vs = [.pen, .d (.list xs)] ∧ n < 1000000 ∧ 1 ≤ xs.length ∧ xs.length < 1073741824 ∧ ∀ x ∈ xs, Z (.d x) (n + 1)
theorem cw__law_one_of : CallW sp__law_one_of u__law_one_of := fun a vs M mo n Q Z hM hp ⟨xs, e, h1, h2, h3, h4⟩ hq => by
  subst e
  exact ⟨a, n, mo, xs, rfl, hM, hp, h1, h2, h3, fun x hx mo' p => hq _ _ _ (h4 x hx) p⟩
noncomputable def F__law_is_integer : FS :=
  (pRet (pAndV (pIsi (isTy .int) (pV 0)) (pAndV (pUn gNot (pIsi (isTy .bool) (pV 0))) (pChain gLe gLe (pV 1) (pV 0) (pV 2)))))
noncomputable def f__law_is_integer : List PyData → Option PyData := runP 3 F__law_is_integer
abbrev sp__law_is_integer : SpD := spP 3 f__law_is_integer
theorem cs__law_is_integer : CbS sp__law_is_integer f__law_is_integer := cbs_spP runP_len
def oddL : List PyData := [.none, .bool true, .bool false, .int 0, .int 1, .int (-1), .str "", .str "a", .tuple [], .list [], .dict [], .tuple [.int 0], .tuple [.int 0, .int 0], .list [.tuple []], .tuple [.tuple []], .int 99, .int 100000000000000000000]
theorem odd_nice : ∀ x ∈ oddL, Nice 100 2 70 x := by
  intro x hx
  refine nice_mk ?_
  have h : oddL.all (fun x => decide (wt x ≤ 100) && decide (x.depth ≤ 2) && fits 70 x) = true := by decide +kernel
  exact List.all_eq_true.mp h x hx
def sp__law_odd : SpD := fun ds M Q => ∃ a n mo, ds = [.r a] ∧ M a = some mo ∧ PenMO n mo ∧ n < 1000000 ∧ ∀ x mo', x ∈ oddL → PenMO (n + 1) mo' → Q (.d x) (mupd M a mo')
theorem odd_go {a : Addr} {n : Nat} {mo : MO} {M : Mem} {Q : DQ} (hM : M a = some mo) (hp : PenMO n mo) (hn : n < 1000000) (k : ∀ x mo', x ∈ oddL → PenMO (n + 1) mo' → Q (.d x) (mupd M a mo')) : sp__law_odd [.r a] M Q := ⟨a, n, mo, rfl, hM, hp, hn, k⟩
def u__law_odd : UF := fun vs n Z => vs = [.pen] ∧ n < 1000000 ∧ ∀ x ∈ oddL, Z (.d x) (n + 1)
theorem cw__law_odd : CallW sp__law_odd u__law_odd := fun a vs M mo n Q Z hM hp ⟨e, h1, h2⟩ hq => by
  subst e
  exact ⟨a, n, mo, rfl, hM, hp, h1, fun x mo' hx p => hq _ _ _ (h2 x hx) p⟩
def spr__law_bent (n : Nat) : SpD := fun ds M Q => ∃ a x m mo W D B, ds = [.r a, .d x] ∧ M a = some mo ∧ PenMO m mo ∧ m + 10 * n ≤ 900000 ∧ Nice W D B x ∧ D < n ∧ 70 ≤ B ∧ W ≤ 100000 ∧
  ∀ y mo', Nice (2 * W + 200) (D + 3) (B + 11) y → PenMO (m + 10 * n) mo' → Q (.d y) (mupd M a mo')
def sp__law_bent : SpD := spr__law_bent 20
theorem log2_lt {n k : Nat} (h : n < 2 ^ k) (hk : 0 < k) : n.log2 < k := by
  rcases Nat.eq_zero_or_pos n with q | q
  · subst q; exact hk
  · exact (Nat.log2_lt (by omega)).mpr h
theorem bent_ints {B : Nat} {i : Int} (hB : 70 ≤ B) (h : i.natAbs.log2 < B) (W D : Nat) (hw : i.natAbs.log2 + 15 ≤ W) : Nice W D (B + 11) (.int (i + 1)) ∧ Nice W D (B + 11) (.int (i - 1)) ∧ Nice W D (B + 11) (.int (-i)) ∧ Nice W D (B + 11) (.int (i * 1000)) := by
  have hp : i.natAbs < 2 ^ (i.natAbs.log2 + 1) := lt_two_pow_of_log2_lt (Nat.lt_succ_self _)
  have e1 : 2 ^ (i.natAbs.log2 + 11) = 2 ^ (i.natAbs.log2 + 1) * 1024 := by rw [show i.natAbs.log2 + 11 = i.natAbs.log2 + 1 + 10 from rfl, Nat.pow_add]
  have h1 : 1 ≤ 2 ^ (i.natAbs.log2 + 1) := Nat.one_le_two_pow
  have key : ∀ j : Int, j.natAbs < 2 ^ (i.natAbs.log2 + 11) → Nice W D (B + 11) (.int j) := fun j hj => by
    have := log2_lt hj (by omega)
    exact ⟨by simp only [wt]; omega, Nat.zero_le _, by simp only [fits]; exact decide_eq_true (by omega)⟩
  rw [e1] at key
  generalize 2 ^ (i.natAbs.log2 + 1) = P at *
  exact ⟨key _ (by omega), key _ (by omega), key _ (by omega), key _ (by omega)⟩
theorem bent_go {a : Addr} {x : PyData} {m W D B : Nat} {mo : MO} {M : Mem} {Q : DQ} (hM : M a = some mo) (hp : PenMO m mo) (hm : m + 200 ≤ 900000) (hx : Nice W D B x) (hD : D < 20) (hB : 70 ≤ B) (hW : W ≤ 100000)
    (k : ∀ y mo', Nice (2 * W + 200) (D + 3) (B + 11) y → PenMO (m + 200) mo' → Q (.d y) (mupd M a mo')) : sp__law_bent [.r a, .d x] M Q := ⟨a, x, m, mo, W, D, B, rfl, hM, hp, hm, hx, hD, hB, hW, k⟩
theorem wtAll_set : ∀ {xs : List PyData} {i : Nat} {x0 y : PyData}, xs[i]? = some x0 → wtAll (xs.set i y) + wt x0 = wtAll xs + wt y
  | [], _, _, _, h => by simp at h
  | x :: xs, 0, x0, y, h => by
    simp at h
    subst h
    simp only [List.set_cons_zero, wtAll]
    omega
  | x :: xs, i + 1, x0, y, h => by
    have := wtAll_set (xs := xs) (i := i) (y := y) (by simpa using h)
    simp only [List.set_cons_succ, wtAll]
    omega
theorem bent_set {xs : List PyData} {i : Nat} {x0 y : PyData} {W D B D' B' : Nat} (h : xs[i]? = some x0) (hn : NiceL W D B xs) (hy : Nice (2 * wt x0 + 200) D' B' y) (hd : D ≤ D') (hb : B ≤ B') : NiceL (2 * W + 200) D' B' (xs.set i y) := by
  have h1 := wtAll_set (y := y) h
  have h2 := wtAll_mem (List.mem_of_getElem? h)
  have h3 := hn.w
  have h4 := hy.w
  have q : NiceL (W + (2 * wt x0 + 200) + 2) D' B' (xs.set i y) := NiceL.set hn.mono hy i
  exact ⟨by omega, q.d, q.f⟩
def u__law_bent : UF := fun vs m Z => ∃ x W D B, vs = [.pen, .d x] ∧ m + 200 ≤ 900000 ∧ Nice W D B x ∧ D < 20 ∧ 70 ≤ B ∧ W ≤ 100000 ∧ ∀ y, Nice (2 * W + 200) (D + 3) (B + 11) y → Z (.d y) (m + 200)
theorem cw__law_bent : CallW sp__law_bent u__law_bent := fun a vs M mo m Q Z hM hp ⟨x, W, D, B, e, h1, h2, h3, h4, h5, h6⟩ hq => by
  subst e
  exact ⟨a, x, m, mo, W, D, B, rfl, hM, hp, h1, h2, h3, h4, h5, fun y mo' n' p => hq _ _ _ (h6 y n') p⟩
def sp__law_draw_test : SpD := fun ds M Q => ∃ a v k n mo, ds = [.r a, .d (.int v), .d (.int k)] ∧ 0 ≤ v ∧ v ≤ 3 ∧ 0 ≤ k ∧ k ≤ 3 ∧ M a = some mo ∧ PenMO n mo ∧ n + 20 < 1000000 ∧ ∀ ps mo', PairsOk k v ps → ps.length ≤ 9 → PenMO (n + 9) mo' → Q (.d (.tuple (ps.map tupI))) (mupd M a mo')
theorem draw_test_go {a : Addr} {v k : Int} {n : Nat} {mo : MO} {M : Mem} {Q : DQ} (h1 : 0 ≤ v) (h2 : v ≤ 3) (h3 : 0 ≤ k) (h4 : k ≤ 3) (hM : M a = some mo) (hp : PenMO n mo) (hn : n + 20 < 1000000)
    (q : ∀ ps mo', PairsOk k v ps → ps.length ≤ 9 → PenMO (n + 9) mo' → Q (.d (.tuple (ps.map tupI))) (mupd M a mo')) : sp__law_draw_test [.r a, .d (.int v), .d (.int k)] M Q := ⟨a, v, k, n, mo, rfl, h1, h2, h3, h4, hM, hp, hn, q⟩
def u__law_draw_test : UF := fun vs n Z => ∃ v k : Int, vs = [.pen, .d (.int v), .d (.int k)] ∧ 0 ≤ v ∧ v ≤ 3 ∧ 0 ≤ k ∧ k ≤ 3 ∧ n + 20 < 1000000 ∧ ∀ ps, PairsOk k v ps → ps.length ≤ 9 → Z (.d (.tuple (ps.map tupI))) (n + 9)
theorem cw__law_draw_test : CallW sp__law_draw_test u__law_draw_test := fun a vs M mo n Q Z hM hp ⟨v, k, e, h1, h2, h3, h4, h5, h6⟩ hq => by
  subst e
  exact ⟨a, v, k, n, mo, rfl, h1, h2, h3, h4, hM, hp, h5, fun ps mo' p1 p2 p => hq _ _ _ (h6 ps p1 p2) p⟩
def ShapesOk (ss : List (List Int)) : Prop := 1 ≤ ss.length ∧ ss.length < 1000 ∧ ∀ s ∈ ss, ∃ n v k : Int, s = [n, v, k] ∧ 1 ≤ n ∧ n ≤ 3 ∧ 1 ≤ v ∧ v ≤ 3 ∧ 1 ≤ k ∧ k ≤ 2
def sp__law_draw_case : SpD := fun ds M Q => ∃ a ss m mo, ds = [.r a, .d (.list (ss.map tupI))] ∧ ShapesOk ss ∧ M a = some mo ∧ PenMO m mo ∧ m + 30 < 1000000 ∧
  ∀ n v k ps j mo', 1 ≤ n → n ≤ 3 → 1 ≤ v → v ≤ 3 → 1 ≤ k → k ≤ 2 → PairsOk k v ps → ps.length ≤ 9 → PenMO (m + 11) mo' → Q (.d (caseD n v k ps j)) (mupd M a mo')
theorem draw_case_go {a : Addr} {ss : List (List Int)} {m : Nat} {mo : MO} {M : Mem} {Q : DQ} (hs : ShapesOk ss) (hM : M a = some mo) (hp : PenMO m mo) (hm : m + 30 < 1000000)
    (q : ∀ n v k ps j mo', 1 ≤ n → n ≤ 3 → 1 ≤ v → v ≤ 3 → 1 ≤ k → k ≤ 2 → PairsOk k v ps → ps.length ≤ 9 → PenMO (m + 11) mo' → Q (.d (caseD n v k ps j)) (mupd M a mo')) : sp__law_draw_case [.r a, .d (.list (ss.map tupI))] M Q := ⟨a, ss, m, mo, rfl, hs, hM, hp, hm, q⟩
def u__law_draw_case : UF := fun vs m Z => ∃ ss : List (List Int), vs = [.pen, .d (.list (ss.map tupI))] ∧ ShapesOk ss ∧ m + 30 < 1000000 ∧
  ∀ n v k ps j, 1 ≤ n → n ≤ 3 → 1 ≤ v → v ≤ 3 → 1 ≤ k → k ≤ 2 → PairsOk k v ps → ps.length ≤ 9 → Z (.d (caseD n v k ps j)) (m + 11)
theorem cw__law_draw_case : CallW sp__law_draw_case u__law_draw_case := fun a vs M mo m Q Z hM hp ⟨ss, e, h1, h2, h3⟩ hq => by
  subst e
  exact ⟨a, ss, m, mo, rfl, h1, hM, hp, h2, fun n v k ps j mo' n1 n3 v1 v3 k1 k2 hps hl p => hq _ _ _ (h3 n v k ps j n1 n3 v1 v3 k1 k2 hps hl) p⟩
noncomputable def C__law_value_ok_1 : FE :=
  (pLc (pSeqI (pOp gIx (pV 0) (pC (.int 3)))) (qName 2) (pB (pOp gEq (pOp gIx (pV 2) (pC (.int 1))) (pV 1))) (pV 2) [2])
noncomputable def F__law_value_ok : FS :=
  (pRet (pOp gNe C__law_value_ok_1 (pMk .list pNil)))
noncomputable def f__law_value_ok : List PyData → Option PyData := runP 2 F__law_value_ok
abbrev sp__law_value_ok : SpD := spP 2 f__law_value_ok
theorem cs__law_value_ok : CbS sp__law_value_ok f__law_value_ok := cbs_spP runP_len
noncomputable def F__law_child_ok : FS :=
  (pRet (pAndV (pOp gNe (pV 2) (pMk .tuple pNil)) (pOp (gIn false) (pMk .tuple (pCons (pOp gIx (pV 2) (pC (.int 0))) (pCons (pOp gIx (pV 1) (pOp gIx (pV 2) (pC (.int 1)))) pNil))) (pOp gIx (pV 0) (pC (.int 3))))))
noncomputable def f__law_child_ok : List PyData → Option PyData := runP 3 F__law_child_ok
abbrev sp__law_child_ok : SpD := spP 3 f__law_child_ok
theorem cs__law_child_ok : CbS sp__law_child_ok f__law_child_ok := cbs_spP runP_len
noncomputable def C__law_wished_1 : FE :=
  (pLc (pSeqI (pOp gIx (pV 1) (pC (.int 0)))) (qName 3) pYes (pIf (pB (pCall f__law_value_ok (pCons (pV 0) (pCons (pV 3) pNil)))) (pV 3) (pUn gNeg (pC (.int 1)))) [3])
noncomputable def F__law_wished : FS :=
  (pSeq (pSet 2 (pCall gTuple (pCons C__law_wished_1 pNil)))
  (pRet (pMk .tuple (pCons (pV 2) (pCons (pIf (pB (pCall f__law_child_ok (pCons (pV 0) (pCons (pOp gIx (pV 1) (pC (.int 0))) (pCons (pOp gIx (pV 1) (pC (.int 1))) pNil))))) (pOp gIx (pV 1) (pC (.int 1))) (pMk .tuple pNil)) pNil)))))
noncomputable def f__law_wished : List PyData → Option PyData := runP 2 F__law_wished
abbrev sp__law_wished : SpD := spP 2 f__law_wished
theorem cs__law_wished : CbS sp__law_wished f__law_wished := cbs_spP runP_len
noncomputable def F__law_is_even : FS :=
  (pRet (pOrV (pOp gEq (pOp gIx (pV 0) (pC (.int 1))) (pMk .tuple pNil)) (pOp gNe (pOp gIx (pOp gIx (pV 0) (pC (.int 0))) (pOp gIx (pOp gIx (pV 0) (pC (.int 1))) (pC (.int 1)))) (pUn gNeg (pC (.int 1))))))
noncomputable def f__law_is_even : List PyData → Option PyData := runP 1 F__law_is_even
abbrev sp__law_is_even : SpD := spP 1 f__law_is_even
theorem cs__law_is_even : CbS sp__law_is_even f__law_is_even := cbs_spP runP_len
noncomputable def B__law_done_1 : FS :=
  (pIfS (pB (pOp gEq (pOp gIx (pV 2) (pC (.int 0))) (pC (.str "child")))) (pSet 4 (pOp gIx (pV 2) (pC (.int 1)))) (pSetIx 3 (pOp gIx (pV 2) (pC (.int 1))) (pOp gIx (pV 2) (pC (.int 2)))))
noncomputable def F__law_done : FS :=
  (pSeq (pParLD 3 4 (pSrc gListL (pCons (pOp gIx (pV 0) (pC (.int 0))) pNil)) (pOp gIx (pV 0) (pC (.int 1))))
  (pSeq (pFor (pSeqI (pV 1)) (qName 2) B__law_done_1)
  (pRet (pMk .tuple (pCons (pCall gTuple (pCons (pV 3) pNil)) (pCons (pV 4) pNil))))))
noncomputable def f__law_done : List PyData → Option PyData := runP 2 F__law_done
abbrev sp__law_done : SpD := spP 2 f__law_done
theorem cs__law_done : CbS sp__law_done f__law_done := cbs_spP runP_len
noncomputable def C__law_commits_1 : FE :=
  (pLc (pSrc gRng2 (pCons (pUn gNeg (pC (.int 1))) (pCons (pV 5) pNil))) (qName 13) (pB (pOp gNe (pV 13) (pOp gIx (pOp gIx (pV 1) (pC (.int 0))) (pV 2)))) (pMk .tuple (pCons (pC (.str "parent")) (pCons (pV 2) (pCons (pV 13) pNil)))) [13])
noncomputable def C__law_commits_2 : FE :=
  (pLc (pSrc gRng1 (pCons (pV 6) pNil)) (qName 14) (pB (pOp gNe (pMk .tuple (pCons (pV 14) (pCons (pV 2) pNil))) (pOp gIx (pV 1) (pC (.int 1))))) (pMk .tuple (pCons (pC (.str "child")) (pCons (pMk .tuple (pCons (pV 14) (pCons (pV 2) pNil))) pNil))) [14])
noncomputable def B__law_commits_1 : FS :=
  (pSeq (pSet 9 (pOp gAdd (pV 9) C__law_commits_1))
  (pSet 10 (pOp gAdd (pV 10) C__law_commits_2)))
noncomputable def C__law_commits_3 : FE :=
  (pLc (pSeqI (pOp gAdd (pV 9) (pV 10))) (qName 11) pYes (pMk .tuple (pCons (pV 11) pNil)) [11])
noncomputable def C__law_commits_4 : FE :=
  (pLc (pSeqI (pV 10)) (qName 15) pYes (pMk .tuple (pCons (pV 11) (pCons (pV 15) pNil))) [15])
noncomputable def B__law_commits_2 : FS :=
  (pSet 3 (pOp gAdd (pV 3) C__law_commits_4))
noncomputable def C__law_commits_5 : FE :=
  (pLc (pSeqI (pV 3)) (qName 12) (pB (pCall f__law_is_even (pCons (pCall f__law_done (pCons (pV 1) (pCons (pV 12) pNil))) pNil))) (pV 12) [12])
noncomputable def F__law_commits : FS :=
  (pSeq (pAsg (qTup 5 (qCons (qName 4) (qCons (qName 5) (qCons (qName 6) (qCons (qName 7) (qCons (qName 8) qNil)))))) (pV 0))
  (pSeq (pPar 9 10 (pCons (pMk .list pNil) (pCons (pOp gRepL (pMk .list (pCons (pMk .tuple (pCons (pC (.str "child")) (pCons (pMk .tuple pNil) pNil))) pNil)) (pCall gInt (pCons (pOp gNe (pOp gIx (pV 1) (pC (.int 1))) (pMk .tuple pNil)) pNil))) pNil)))
  (pSeq (pFor (pSrc gRng1 (pCons (pV 4) pNil)) (qName 2) B__law_commits_1)
  (pSeq (pSet 3 C__law_commits_3)
  (pSeq (pIfS (pB (pV 8)) (pFor (pSeqI (pV 9)) (qName 11) B__law_commits_2) pNext)
  (pRet (pCall gSortS (pCons C__law_commits_5 pNil))))))))
noncomputable def f__law_commits : List PyData → Option PyData := runP 2 F__law_commits
abbrev sp__law_commits : SpD := spP 2 f__law_commits
theorem cs__law_commits : CbS sp__law_commits f__law_commits := cbs_spP runP_len
noncomputable def C__law_is_source_1 : FE :=
  (pLc (pSeqI (pOp gIx (pV 1) (pC (.int 0)))) (qName 3) pYes (pCall f__law_is_integer (pCons (pV 3) (pCons (pUn gNeg (pC (.int 1))) (pCons (pOp gSub (pOp gIx (pV 0) (pC (.int 1))) (pC (.int 1))) pNil)))) [3])
noncomputable def F__law_is_source : FS :=
  (pSeq (pIfS (pOrT (pNotT (pB (pIsi (isTy .tuple) (pV 1)))) (pOrT (pB (pOp gNe (pCall gLen (pCons (pV 1) pNil)) (pC (.int 2)))) (pOrT (pNotT (pB (pIsi (isTy .tuple) (pOp gIx (pV 1) (pC (.int 0)))))) (pB (pOp gNe (pCall gLen (pCons (pOp gIx (pV 1) (pC (.int 0))) pNil)) (pOp gIx (pV 0) (pC (.int 0)))))))) (pRet (pC (.bool false))) pNext)
  (pSeq (pIfS (pOrT (pB (pOp (gIn false) (pC (.bool false)) C__law_is_source_1)) (pNotT (pB (pIsi (isTy .tuple) (pOp gIx (pV 1) (pC (.int 1))))))) (pRet (pC (.bool false))) pNext)
  (pSeq (pSet 2 (pOp gIx (pV 1) (pC (.int 1))))
  (pSeq (pIfS (pB (pOp gEq0 (pV 2) (pMk .tuple pNil))) (pRet (pC (.bool true))) pNext)
  (pSeq (pIfS (pOrT (pB (pOp gNe (pCall gLen (pCons (pV 2) pNil)) (pC (.int 2)))) (pNotT (pB (pCall f__law_is_integer (pCons (pOp gIx (pV 2) (pC (.int 0))) (pCons (pC (.int 0)) (pCons (pOp gSub (pOp gIx (pV 0) (pC (.int 2))) (pC (.int 1))) pNil))))))) (pRet (pC (.bool false))) pNext)
  (pRet (pAndV (pCall f__law_is_integer (pCons (pOp gIx (pV 2) (pC (.int 1))) (pCons (pC (.int 0)) (pCons (pOp gSub (pOp gIx (pV 0) (pC (.int 0))) (pC (.int 1))) pNil)))) (pOp gNe (pOp gIx (pOp gIx (pV 1) (pC (.int 0))) (pOp gIx (pV 2) (pC (.int 1)))) (pUn gNeg (pC (.int 1)))))))))))
noncomputable def f__law_is_source : List PyData → Option PyData := runP 2 F__law_is_source
abbrev sp__law_is_source : SpD := spP 2 f__law_is_source
theorem cs__law_is_source : CbS sp__law_is_source f__law_is_source := cbs_spP runP_len
def B__law_draw_source_1 : US :=
  (uSet 2 (uCall f__law_done (uCons (emb (pV 2)) (uCons (uCallW u__law_one_of (uCons (uV 0) (embA (pCons (pCall f__law_commits (pCons (pV 1) (pCons (pV 2) pNil))) pNil)))) uNil))))
def U__law_draw_source : US :=
  (uSeq (uSet 2 (emb (pMk .tuple (pCons (pOp gRepT (pMk .tuple (pCons (pUn gNeg (pC (.int 1))) pNil)) (pOp gIx (pV 1) (pC (.int 0)))) (pCons (pMk .tuple pNil) pNil)))))
  (uSeq (uFor (uSrc gRng1 (uCons (uCallW u__law_take (uCons (uV 0) (embA (pCons (pC (.int 6)) pNil)))) uNil)) (tName 3) B__law_draw_source_1)
  (uRet (emb (pV 2)))))
def u__law_draw_source : UF := runW 2 U__law_draw_source
abbrev sp__law_draw_source : SpD := spW 2 u__law_draw_source
theorem cw__law_draw_source : CallW sp__law_draw_source u__law_draw_source := callW_spW
def U__law_near : US :=
  (uSeq (uAsg (tuTup 2 (tuCons (tName 3) (tuCons (tName 4) tuNil))) (emb (pV 2)))
  (uSeq (uPar 5 6 (uCons (uCallW u__law_take (uCons (uV 0) (embA (pCons (pOp gIx (pV 1) (pC (.int 0))) pNil)))) (uCons (uCallW u__law_take (uCons (uV 0) (embA (pCons (pC (.int 6)) pNil)))) uNil)))
  (uSeq (uIfS (embT (pB (pOp gLt (pV 6) (pC (.int 2))))) (uSeq (uSet 7 (emb (pMk .list (pCons (pUn gNeg (pC (.int 1))) (pCons (pUn gNeg (pC (.int 2))) (pCons (pOp gIx (pV 1) (pC (.int 1))) (pCons (pC (.int 0)) (pCons (pC (.bool true)) (pCons (pC .none) pNil)))))))))
  (uRet (uMk .tuple (uCons (uOp gAdd (uOp gAdd (emb (pSl (pV 3) pNo (pPart (pV 5)))) (uMk .tuple (uCons (uCallW u__law_one_of (uCons (uV 0) (embA (pCons (pV 7) pNil)))) uNil))) (emb (pSl (pV 3) (pPart (pOp gAdd (pV 5) (pC (.int 1)))) pNo))) (embA (pCons (pV 4) pNil)))))) uNext)
  (uSeq (uIfS (embT (pB (pOp gLt (pV 6) (pC (.int 4))))) (uSeq (uSet 7 (emb (pMk .list (pCons (pMk .tuple pNil) (pCons (pMk .list pNil) (pCons (pMk .tuple (pCons (pC (.int 0)) (pCons (pC (.int 0)) pNil))) (pCons (pMk .tuple (pCons (pC (.int 0)) (pCons (pV 5) pNil))) (pCons (pMk .tuple (pCons (pOp gIx (pV 1) (pC (.int 2))) (pCons (pV 5) pNil))) (pCons (pMk .tuple (pCons (pC (.int 0)) (pCons (pOp gIx (pV 1) (pC (.int 0))) pNil))) (pCons (pMk .tuple (pCons (pUn gNeg (pC (.int 1))) (pCons (pC (.int 0)) pNil))) (pCons (pMk .tuple (pCons (pC (.int 0)) (pCons (pUn gNeg (pC (.int 1))) pNil))) (pCons (pMk .tuple (pCons (pC (.bool false)) (pCons (pC (.int 0)) pNil))) (pCons (pMk .tuple (pCons (pC (.int 0)) (pCons (pC (.int 0)) (pCons (pC (.int 0)) pNil)))) (pCons (pC .none) pNil))))))))))))))
  (uRet (uMk .tuple (uCons (emb (pV 3)) (uCons (uCallW u__law_one_of (uCons (uV 0) (embA (pCons (pV 7) pNil)))) uNil))))) uNext)
  (uSeq (uIfS (embT (pB (pOp gEq (pV 6) (pC (.int 4))))) (uSeq (uSet 7 (emb (pMk .list (pCons (pMk .tuple (pCons (pV 3) pNil)) (pCons (pMk .tuple (pCons (pV 4) (pCons (pV 3) pNil))) (pCons (pMk .list (pCons (pV 3) (pCons (pV 4) pNil))) (pCons (pMk .tuple (pCons (pCall gList (pCons (pV 3) pNil)) (pCons (pV 4) pNil))) (pCons (pMk .tuple (pCons (pSl (pV 3) (pPart (pC (.int 1))) pNo) (pCons (pV 4) pNil))) pNil))))))))
  (uRet (uCallW u__law_one_of (uCons (uV 0) (embA (pCons (pV 7) pNil)))))) uNext)
  (uRet (uCallW u__law_bent (uCons (uV 0) (embA (pCons (pV 2) pNil))))))))))
def u__law_near : UF := runW 3 U__law_near
abbrev sp__law_near : SpD := spW 3 u__law_near
theorem cw__law_near : CallW sp__law_near u__law_near := callW_spW
def C_law_1 : UE :=
  (uLc (embI (pSrc gRng1 (pCons (pC (.int 12)) pNil))) (tName 7) uYes (uCallW u__law_near (uCons (uV 1) (embA (pCons (pV 3) (pCons (pV 4) pNil))))) [7])
def B_law_2 : US :=
  (uSeq (uSet 5 (emb (pCall gRepr (pCons (pV 6) pNil))))
  (uIfS (embT (pOrT (pNotT (pB (pCall f__law_same (pCons (pCall f_is_source (pCons (pV 3) (pCons (pV 6) pNil))) (pCons (pCall f__law_is_source (pCons (pV 3) (pCons (pV 6) pNil))) pNil))))) (pB (pOp gNe (pCall gRepr (pCons (pV 6) pNil)) (pV 5))))) (uRet (emb (pC (.bool false)))) uNext))
def B_law_3 : US :=
  (uSeq (uSet 3 (uCallW u__law_draw_case (uCons (uV 1) (embA (pCons (pMk .list (pCons (pMk .tuple (pCons (pC (.int 1)) (pCons (pC (.int 2)) (pCons (pC (.int 1)) pNil)))) (pCons (pMk .tuple (pCons (pC (.int 2)) (pCons (pC (.int 2)) (pCons (pC (.int 1)) pNil)))) (pCons (pMk .tuple (pCons (pC (.int 2)) (pCons (pC (.int 3)) (pCons (pC (.int 2)) pNil)))) (pCons (pMk .tuple (pCons (pC (.int 3)) (pCons (pC (.int 3)) (pCons (pC (.int 2)) pNil)))) (pCons (pMk .tuple (pCons (pC (.int 3)) (pCons (pC (.int 1)) (pCons (pC (.int 1)) pNil)))) (pCons (pMk .tuple (pCons (pC (.int 1)) (pCons (pC (.int 3)) (pCons (pC (.int 2)) pNil)))) pNil))))))) pNil)))))
  (uSeq (uSet 4 (uCallW u__law_draw_source (uCons (uV 1) (embA (pCons (pV 3) pNil)))))
  (uSeq (uSet 5 (emb (pCall gRepr (pCons (pMk .tuple (pCons (pV 3) (pCons (pV 4) pNil))) pNil))))
  (uSeq (uIfS (embT (pNotT (pB (pCall f__law_same (pCons (pCall f_child_passes (pCons (pV 3) (pCons (pV 4) pNil))) (pCons (pCall f__law_child_ok (pCons (pV 3) (pCons (pOp gIx (pV 4) (pC (.int 0))) (pCons (pOp gIx (pV 4) (pC (.int 1))) pNil)))) pNil)))))) (uRet (emb (pC (.bool false)))) uNext)
  (uSeq (uIfS (embT (pOrT (pNotT (pB (pCall f__law_same (pCons (pCall f_wished (pCons (pV 3) (pCons (pV 4) pNil))) (pCons (pCall f__law_wished (pCons (pV 3) (pCons (pV 4) pNil))) pNil))))) (pB (pOp gNe (pCall gRepr (pCons (pMk .tuple (pCons (pV 3) (pCons (pV 4) pNil))) pNil)) (pV 5))))) (uRet (emb (pC (.bool false)))) uNext)
  (uFor (uSeqI (uOp gAdd (emb (pMk .list (pCons (pV 4) (pCons (pC .none) (pCons (pMk .tuple pNil) (pCons (pC (.dict [])) pNil)))))) C_law_1)) (tName 6) B_law_2))))))
def sp_law : SpD := spLaw 63
def U_law : US :=
  (uSeq (uFor (embI (pSrc gRng1 (pCons (pC (.int 3)) pNil))) (tName 2) B_law_3)
  (uRet (emb (pC (.bool true)))))
local macro_rules | `(tactic| walk_at "plside") => `(tactic| first | assumption | omega | (simp only [List.length_cons, List.length_nil, List.length_append, List.length_map] <;> omega) | decide)
local macro_rules | `(tactic| walk_at "pl") => `(tactic| simp -failIfUnchanged (maxSteps := 2000000) (disch := walk_at "plside") only [pV, pC, pOp, pUn, pB, pNotT, pAndT, pOrT, pAndV, pOrV, pIf, pChain, pNil, pCons, pCall, pMk, pNo, pPart, pSl, pIsi, pSrc, pSeqI, pYes, pNext, pBrk, pCont, pSeq, pRet, pRetN, pIfS, pSet, pAsg, pPar, pPar3, pLst, pSetL, pRetL, pRetV, pApp, pExt, pSetIx, pFor, pParLD, pParDL, pParLL, pFrz, pOpL, pIfI, pKeep, pgNil, pgD, pgL, pParG, pGrow, qName, qNil, qCons, qTup, runP, runL, uV, uOp, uUn, uB, uNotT, uAndT, uOrT, uBV, uIf, uChain, uNil, uCons, uCall, uCallW, uMk, uSl, uIsi, uSrc, uSeqI, uYes, uNext, uBrk, uCont, uSeq, uRet, uRetN, uDrop, uIfS, uSet, uAsg, uPar, uPar3, uLst, uSetL, uRetL, uRetV, uApp, uExt, uSetIx, uFor, uParLD, uParDL, uParLL, uFrz, uOpL, uIfI, uKeep, ugNil, ugD, ugL, uParG, uGrow, tName, tuNil, tuCons, tuTup, emb, embT, embA, embI, gEq, gNe, gCmp, gI0_e1, gI_e1, gAdd_e1, gAdd_e2, gIn_e1, gIn_e2, gIs_e1, gIx_e1, gIx_e2, gIx_e3, gB_e1, gB_e2, gB_e3, gLen_e1, gLen_e2, gLen_e3, gAllQ_e1, gRepr_e1, gSortA_e1, gSortS_e1, gSortAL_e1, gSortSL_e1, gTuple_e1, gTuple_e2, gList_e1, gList_e2, gInt_e1, gInt_e2, gSl_e1, gSl_e2, gRev_e1, gRev_e2, gSeq_e1, gSeq_e2, gEnum_e1, gEnumT_e1, gZip_e1, gZip_e2, gZipT_e1, gListL_e1, gListL_e2, gNeg_e1, gNot_e1, asB_e1, asL_e1, asI1_e1, gAdd_c1, gAdd_c2, gRng1_c, gRng2_c, gZipX_c1, gZipX_c2, gZipX_c3, gZipX_c4, gRepT_c, gRepL_c, Int.cast_ofNat_Int, Int.natCast_zero, Int.natCast_one, Int.reduceBEq, Int.reduceSub, Int.reduceAdd, Int.reduceNeg, Int.reduceToNat, Int.reduceLE, Int.reduceLT, Option.bind_some, Option.map_some, Option.bind_none, Option.map_none, put_e, wipeP_nil, wipeP_cons, pd_e, pvD_d, pvD_pen, pvD_s, reduceIte, Nat.reduceEqDiff, startP_e, List.getElem?_cons_zero, List.getElem?_cons_succ, List.getElem?_nil, atI_lit, List.map_cons, List.map_nil, List.length_cons, List.length_nil, Nat.reduceAdd, onD_d, onB_b, ex_some, dsOf_n, dsOf_c, onDs_0, onDs_1, onDs_2, onDs_3, onDs_4, onDs_5, onDs_6, onDs_m, sz0, sz1, sz2, sz3, sz4, sz5, sz6, sz7, sz8, sz9, sz10, sz11, sz12, sz13, List.mem_cons, true_or, true_and, and_true, List.nil_append, List.cons_append, cutD_ll, cutD_l, cutD_u, eqOk_int, eqOk_bool, eqOk_ib, eqOk_bi, eqOk_str, eqv_int, eqv_bool, eqv_str, BEq.rfl, Bool.or_true, Bool.or_false, Bool.true_or, Bool.false_or, Bool.not_true, Bool.not_false, Bool.and_true, Bool.and_false, Bool.true_and, Bool.false_and, eq_self, if_true, if_false, Bool.false_eq_true, List.set_cons_zero, List.set_cons_succ, zipL_nn, zipL_cc, enumL_n, enumL_c, thenP_nx, thenP_rt, thenP_rl, thenP_bk, thenP_ct, turnP_nx, turnP_ct, turnP_bk, turnP_rt, turnP_rl, outP_rt, outP_rl, outP_nx, outL_rl, parP_e, parP3_e, parU_e, parU3_e, eqv_none_bool, eqv_none_int, eqv_none_str, eqv_none_list, eqv_none_tuple, eqv_bool_none, eqv_bool_str, eqv_bool_list, eqv_bool_tuple, eqv_int_none, eqv_int_str, eqv_int_list, eqv_int_tuple, eqv_str_none, eqv_str_bool, eqv_str_int, eqv_str_list, eqv_str_tuple, eqv_list_none, eqv_list_bool, eqv_list_int, eqv_list_str, eqv_list_tuple, eqv_tuple_none, eqv_tuple_bool, eqv_tuple_int, eqv_tuple_str, eqv_tuple_list, eqv_tup, eqv_lst, eqv_nn, eqvAll_nn, eqvAll_nc, eqvAll_cn, eqvAll_cc, sh_i, sh_b, sh_n, sh_t0, sh_t1, sh_t2, eqOk_r_t, eqOk_t_r, eqOk_r_ch, eqOk_ch_r, shaped_ch, ch_nil, bind_ite, map_ite, ite_and, ite_or, iteB_and, iteB_or, allB_mapF, List.all_map, List.any_map, Function.comp_def, str_cp, str_pc, s_ae, s_an, s_ea, s_en, s_na, s_ne, s_dc, s_cd, s_da, s_ad, s_ac, s_ca, s_vc, s_vk, s_cv, s_ck, s_kv, s_kc, shaped_tupIs, pP2_any, gEq0_e1, ix_s0, ix_s1, ix_c0, ix_c1, ix_c2, ix_c3, ix_c4, ix_p0, ix_p1, ix_p2, ix_p3, ix_p4, ix_p5, ix_p6, ix_p7, isNone_n, isNone_b, isNone_i, isNone_s, isNone_l, isNone_t, PV.d.injEq, onlyRet_rt, onlyRet_rl, gRepLL_c, gAddL_c, putsP_c, putsP_n, putsG_c, putsG_n, arV_l, arV_r, elim_l, elim_r, allB_n, allB_c, isTy_int_none, isTy_int_bool, isTy_int_int, isTy_int_str, isTy_int_list, isTy_int_tuple, isTy_int_dict, isTy_bool_none, isTy_bool_bool, isTy_bool_int, isTy_bool_str, isTy_bool_list, isTy_bool_tuple, isTy_bool_dict, isTy_str_none, isTy_str_bool, isTy_str_int, isTy_str_str, isTy_str_list, isTy_str_tuple, isTy_str_dict, isTy_list_none, isTy_list_bool, isTy_list_int, isTy_list_str, isTy_list_list, isTy_list_tuple, isTy_list_dict, isTy_tuple_none, isTy_tuple_bool, isTy_tuple_int, isTy_tuple_str, isTy_tuple_list, isTy_tuple_tuple, isTy_tuple_dict, isTy_dict_none, isTy_dict_bool, isTy_dict_int, isTy_dict_str, isTy_dict_list, isTy_dict_tuple, isTy_dict_dict])
local macro_rules | `(tactic| walk_at "pls") => `(tactic| simp -failIfUnchanged (maxSteps := 2000000) (disch := walk_at "plside") only [*, pV, pC, pOp, pUn, pB, pNotT, pAndT, pOrT, pAndV, pOrV, pIf, pChain, pNil, pCons, pCall, pMk, pNo, pPart, pSl, pIsi, pSrc, pSeqI, pYes, pNext, pBrk, pCont, pSeq, pRet, pRetN, pIfS, pSet, pAsg, pPar, pPar3, pLst, pSetL, pRetL, pRetV, pApp, pExt, pSetIx, pFor, pParLD, pParDL, pParLL, pFrz, pOpL, pIfI, pKeep, pgNil, pgD, pgL, pParG, pGrow, qName, qNil, qCons, qTup, runP, runL, uV, uOp, uUn, uB, uNotT, uAndT, uOrT, uBV, uIf, uChain, uNil, uCons, uCall, uCallW, uMk, uSl, uIsi, uSrc, uSeqI, uYes, uNext, uBrk, uCont, uSeq, uRet, uRetN, uDrop, uIfS, uSet, uAsg, uPar, uPar3, uLst, uSetL, uRetL, uRetV, uApp, uExt, uSetIx, uFor, uParLD, uParDL, uParLL, uFrz, uOpL, uIfI, uKeep, ugNil, ugD, ugL, uParG, uGrow, tName, tuNil, tuCons, tuTup, emb, embT, embA, embI, gEq, gNe, gCmp, gI0_e1, gI_e1, gAdd_e1, gAdd_e2, gIn_e1, gIn_e2, gIs_e1, gIx_e1, gIx_e2, gIx_e3, gB_e1, gB_e2, gB_e3, gLen_e1, gLen_e2, gLen_e3, gAllQ_e1, gRepr_e1, gSortA_e1, gSortS_e1, gSortAL_e1, gSortSL_e1, gTuple_e1, gTuple_e2, gList_e1, gList_e2, gInt_e1, gInt_e2, gSl_e1, gSl_e2, gRev_e1, gRev_e2, gSeq_e1, gSeq_e2, gEnum_e1, gEnumT_e1, gZip_e1, gZip_e2, gZipT_e1, gListL_e1, gListL_e2, gNeg_e1, gNot_e1, asB_e1, asL_e1, asI1_e1, gAdd_c1, gAdd_c2, gRng1_c, gRng2_c, gZipX_c1, gZipX_c2, gZipX_c3, gZipX_c4, gRepT_c, gRepL_c, Int.cast_ofNat_Int, Int.natCast_zero, Int.natCast_one, Int.reduceBEq, Int.reduceSub, Int.reduceAdd, Int.reduceNeg, Int.reduceToNat, Int.reduceLE, Int.reduceLT, Option.bind_some, Option.map_some, Option.bind_none, Option.map_none, put_e, wipeP_nil, wipeP_cons, pd_e, pvD_d, pvD_pen, pvD_s, reduceIte, Nat.reduceEqDiff, startP_e, List.getElem?_cons_zero, List.getElem?_cons_succ, List.getElem?_nil, atI_lit, List.map_cons, List.map_nil, List.length_cons, List.length_nil, Nat.reduceAdd, onD_d, onB_b, ex_some, dsOf_n, dsOf_c, onDs_0, onDs_1, onDs_2, onDs_3, onDs_4, onDs_5, onDs_6, onDs_m, sz0, sz1, sz2, sz3, sz4, sz5, sz6, sz7, sz8, sz9, sz10, sz11, sz12, sz13, List.mem_cons, true_or, true_and, and_true, List.nil_append, List.cons_append, cutD_ll, cutD_l, cutD_u, eqOk_int, eqOk_bool, eqOk_ib, eqOk_bi, eqOk_str, eqv_int, eqv_bool, eqv_str, BEq.rfl, Bool.or_true, Bool.or_false, Bool.true_or, Bool.false_or, Bool.not_true, Bool.not_false, Bool.and_true, Bool.and_false, Bool.true_and, Bool.false_and, eq_self, if_true, if_false, Bool.false_eq_true, List.set_cons_zero, List.set_cons_succ, zipL_nn, zipL_cc, enumL_n, enumL_c, thenP_nx, thenP_rt, thenP_rl, thenP_bk, thenP_ct, turnP_nx, turnP_ct, turnP_bk, turnP_rt, turnP_rl, outP_rt, outP_rl, outP_nx, outL_rl, parP_e, parP3_e, parU_e, parU3_e, eqv_none_bool, eqv_none_int, eqv_none_str, eqv_none_list, eqv_none_tuple, eqv_bool_none, eqv_bool_str, eqv_bool_list, eqv_bool_tuple, eqv_int_none, eqv_int_str, eqv_int_list, eqv_int_tuple, eqv_str_none, eqv_str_bool, eqv_str_int, eqv_str_list, eqv_str_tuple, eqv_list_none, eqv_list_bool, eqv_list_int, eqv_list_str, eqv_list_tuple, eqv_tuple_none, eqv_tuple_bool, eqv_tuple_int, eqv_tuple_str, eqv_tuple_list, eqv_tup, eqv_lst, eqv_nn, eqvAll_nn, eqvAll_nc, eqvAll_cn, eqvAll_cc, sh_i, sh_b, sh_n, sh_t0, sh_t1, sh_t2, eqOk_r_t, eqOk_t_r, eqOk_r_ch, eqOk_ch_r, shaped_ch, ch_nil, bind_ite, map_ite, ite_and, ite_or, iteB_and, iteB_or, allB_mapF, List.all_map, List.any_map, Function.comp_def, str_cp, str_pc, s_ae, s_an, s_ea, s_en, s_na, s_ne, s_dc, s_cd, s_da, s_ad, s_ac, s_ca, s_vc, s_vk, s_cv, s_ck, s_kv, s_kc, shaped_tupIs, pP2_any, gEq0_e1, ix_s0, ix_s1, ix_c0, ix_c1, ix_c2, ix_c3, ix_c4, ix_p0, ix_p1, ix_p2, ix_p3, ix_p4, ix_p5, ix_p6, ix_p7, isNone_n, isNone_b, isNone_i, isNone_s, isNone_l, isNone_t, PV.d.injEq, onlyRet_rt, onlyRet_rl, gRepLL_c, gAddL_c, putsP_c, putsP_n, putsG_c, putsG_n, arV_l, arV_r, elim_l, elim_r, allB_n, allB_c, isTy_int_none, isTy_int_bool, isTy_int_int, isTy_int_str, isTy_int_list, isTy_int_tuple, isTy_int_dict, isTy_bool_none, isTy_bool_bool, isTy_bool_int, isTy_bool_str, isTy_bool_list, isTy_bool_tuple, isTy_bool_dict, isTy_str_none, isTy_str_bool, isTy_str_int, isTy_str_str, isTy_str_list, isTy_str_tuple, isTy_str_dict, isTy_list_none, isTy_list_bool, isTy_list_int, isTy_list_str, isTy_list_list, isTy_list_tuple, isTy_list_dict, isTy_tuple_none, isTy_tuple_bool, isTy_tuple_int, isTy_tuple_str, isTy_tuple_list, isTy_tuple_tuple, isTy_tuple_dict, isTy_dict_none, isTy_dict_bool, isTy_dict_int, isTy_dict_str, isTy_dict_list, isTy_dict_tuple, isTy_dict_dict])
theorem samey_of : ∀ (m : Nat) (x : PyData), wt x ≤ 1000000 → x.depth < m → noDict x = true → Samey m x
  | 0, _, _, h, _ => by omega
  | m + 1, .none, _, _, _ => trivial
  | m + 1, .bool _, _, _, _ => trivial
  | m + 1, .int _, _, _, _ => trivial
  | m + 1, .str _, _, _, _ => trivial
  | m + 1, .list xs, hw, hd, hn => by
    simp only [wt, PyData.depth, noDict] at hw hd hn
    have := len_wtAll xs
    refine ⟨list_len (by omega), fun x hx => samey_of m x ?_ ?_ (noDictAll_iff.mp hn x hx)⟩
    · have := wtAll_mem hx; omega
    · have := depthAll_iff.mp (Nat.le_refl (PyData.depthAll xs)) x hx; omega
  | m + 1, .tuple xs, hw, hd, hn => by
    simp only [wt, PyData.depth, noDict] at hw hd hn
    have := len_wtAll xs
    refine ⟨list_len (by omega), fun x hx => samey_of m x ?_ ?_ (noDictAll_iff.mp hn x hx)⟩
    · have := wtAll_mem hx; omega
    · have := depthAll_iff.mp (Nat.le_refl (PyData.depthAll xs)) x hx; omega
  | m + 1, .dict _, _, _, h => by cases h
theorem samey_nice {W D B : Nat} {x : PyData} (h : Nice W D B x) (hn : noDict x = true) (hw : W ≤ 1000000 := by omega) (hd : D < 20 := by omega) : Samey 20 x := samey_of 20 x (Nat.le_trans h.w hw) (Nat.lt_of_le_of_lt h.d hd) hn
theorem same_e {x : PyData} (h : Samey 20 x) : f__law_same [x, x] = some (.bool true) := if_pos ⟨rfl, h⟩

theorem samey_up : ∀ {m : Nat} {x : PyData}, Samey m x → Samey (m + 1) x
  | 0, _, h => h.elim
  | m + 1, .none, _ => trivial
  | m + 1, .bool _, _ => trivial
  | m + 1, .int _, _ => trivial
  | m + 1, .str _, _ => trivial
  | m + 1, .list xs, h => ⟨h.1, fun x hx => samey_up (h.2 x hx)⟩
  | m + 1, .tuple xs, h => ⟨h.1, fun x hx => samey_up (h.2 x hx)⟩
  | m + 1, .dict _, h => h.elim
theorem samey_le {m l : Nat} {x : PyData} (h : Samey m x) (hl : m ≤ l) : Samey l x := by
  induction hl with
  | refl => exact h
  | step _ ih => exact samey_up ih
theorem samey_tup {m : Nat} {xs : List PyData} (hl : xs.length ≤ 1000000) (h : ∀ x ∈ xs, Samey m x) : Samey (m + 1) (.tuple xs) := ⟨list_len hl, h⟩
theorem samey_lst {m : Nat} {xs : List PyData} (hl : xs.length ≤ 1000000) (h : ∀ x ∈ xs, Samey m x) : Samey (m + 1) (.list xs) := ⟨list_len hl, h⟩
theorem samey_map {α : Type} {m : Nat} {f : α → PyData} {xs : List α} (hl : xs.length ≤ 1000000) (h : ∀ x ∈ xs, Samey m (f x)) : Samey (m + 1) (.tuple (xs.map f)) := samey_tup (by simpa using hl) fun y hy => by obtain ⟨x, hx, rfl⟩ := List.mem_map.mp hy; exact h x hx
theorem samey_mapL {α : Type} {m : Nat} {f : α → PyData} {xs : List α} (hl : xs.length ≤ 1000000) (h : ∀ x ∈ xs, Samey m (f x)) : Samey (m + 1) (.list (xs.map f)) := samey_lst (by simpa using hl) fun y hy => by obtain ⟨x, hx, rfl⟩ := List.mem_map.mp hy; exact h x hx
theorem samey_ch (c : Child) : Samey 2 (chD c) := by
  cases c with
  | none => exact samey_tup (by simp) (by simp)
  | some x => obtain ⟨a, p⟩ := x; exact samey_tup (by simp) (by intro x hx; simp only [List.mem_cons, List.not_mem_nil, or_false] at hx; rcases hx with rfl | rfl <;> trivial)
theorem samey_Ch (c : Ch) : Samey 3 c.D := by
  cases c with
  | par p s => exact samey_tup (by simp) (by intro x hx; simp only [List.mem_cons, List.not_mem_nil, or_false] at hx; rcases hx with rfl | rfl | rfl <;> trivial)
  | kid c => exact samey_tup (by simp) (by intro x hx; simp only [List.mem_cons, List.not_mem_nil, or_false] at hx; rcases hx with rfl | rfl <;> first | exact samey_ch _ | trivial)
theorem samey_src (s : List Int × Child) (hl : s.1.length ≤ 1000) : Samey 3 (sD s) := samey_tup (by simp) (by
  intro x hx
  simp only [List.mem_cons, List.not_mem_nil, or_false] at hx
  rcases hx with rfl | rfl
  · exact samey_map (by omega) fun _ _ => trivial
  · exact samey_ch _)
theorem samey_com (cs : List Ch) (hl : cs.length ≤ 1000) : Samey 4 (comD cs) := samey_map (by omega) fun c _ => samey_Ch c
theorem samey_en (e : En) : Samey 3 e.D := by
  cases e with
  | par p s t =>
    cases t with
    | none => exact samey_tup (by simp) (by intro x hx; simp only [List.mem_cons, List.not_mem_nil, or_false] at hx; rcases hx with rfl | rfl | rfl | rfl <;> first | trivial | exact samey_tup (by simp) (by simp))
    | some a => exact samey_tup (by simp) (by intro x hx; simp only [List.mem_cons, List.not_mem_nil, or_false] at hx; rcases hx with rfl | rfl | rfl | rfl <;> first | trivial | exact samey_tup (by simp) (by intro x hx; simp only [List.mem_cons, List.not_mem_nil, or_false] at hx; subst hx; trivial))
  | kid c v => exact samey_tup (by simp) (by intro x hx; simp only [List.mem_cons, List.not_mem_nil, or_false] at hx; rcases hx with rfl | rfl | rfl <;> first | exact samey_ch _ | trivial)
theorem samey_msg (m : Option (List En)) (h : ∀ es, m = some es → es.length ≤ 1000) : Samey 4 (msgD m) := by
  cases m with
  | none => trivial
  | some es => exact samey_map (by have := h es rfl; omega) fun e _ => samey_en e
theorem samey_msgs (ms : List (Option (List En))) (hl : ms.length ≤ 1000) (h : ∀ es, some es ∈ ms → es.length ≤ 1000) : Samey 5 (msgsD ms) := samey_map (by omega) fun m hm => samey_msg m fun es e => h es (by rw [← e]; exact hm)
theorem msgs_len (ps : List (List Int)) (pl : Plan) (s : List Int × Child) (cs : List Ch) : (msgs ps pl s cs).length ≤ 2 ∧ ∀ es, some es ∈ msgs ps pl s cs → es.length ≤ cs.length := by
  have hl : (sentE ps pl s cs).length ≤ cs.length := by
    unfold sentE
    rw [List.length_map]
    exact List.length_filter_le _ _
  unfold msgs
  split
  · refine ⟨by simp, fun es h => ?_⟩
    simp only [List.mem_cons, List.not_mem_nil, or_false, Option.some.injEq] at h
    subst h
    exact hl
  · refine ⟨by simp, fun es h => ?_⟩
    have l1 : ∀ q : En → Bool, ((sentE ps pl s cs).filter q).length ≤ cs.length := fun q => Nat.le_trans (List.length_filter_le _ _) hl
    simp only [List.mem_cons, List.not_mem_nil, or_false] at h
    rcases h with h | h <;> split at h <;> first | (obtain rfl := Option.some.inj h; exact l1 _) | cases h

theorem is_integer_e (d : PyData) : f_is_integer [d] = some (.bool (dInt d)) := by
  unfold f_is_integer F_is_integer
  walk_at "pl"
  cases d <;> walk_at "pl" <;> rfl
theorem is_within_e (d : PyData) (lo hi : Int) : f_is_within [d, .int lo, .int hi] = some (.bool (isWithin d lo hi)) := by
  unfold f_is_within F_is_within
  walk_at "pl"
  simp only [is_integer_e]
  cases d <;> simp only [dInt, isWithin] <;> walk_at "pl" <;> try rfl

theorem law_done_e (s : List Int × Child) (cs : List Ch) (hl : s.1.length ≤ 1000) (hc : ∀ c ∈ cs, c.inn s.1.length) : f__law_done [sD s, comD cs] = some (sD (goes cs s)) := by
  unfold f__law_done F__law_done sD srcD comD
  walk_at "pl"
  obtain ⟨π', e, cs2, s2, hr, hlen, hin, hg, h3, h4⟩ := pLoop_inv (q := qName 2) (F := B__law_done_1) (fun rest π => ∃ cs2 s2, rest = cs2.map Ch.D ∧ s2.1.length = s.1.length ∧ (∀ c ∈ cs2, c.inn s.1.length) ∧ goes cs2 s2 = goes cs s ∧ π 3 = some (.list (s2.1.map .int)) ∧ π 4 = some (chD s2.2)) (by
    rintro x xs π ⟨cs2, s2, hr, hlen, hin, hg, h3, h4⟩
    cases cs2 with
    | nil => cases hr
    | cons c cs2 =>
      simp only [List.map_cons] at hr
      obtain ⟨rfl, rfl⟩ := List.cons.inj hr
      have hc1 := hin c (by simp)
      cases c with
      | par p y =>
        refine ⟨_, put (put π 2 (Ch.par p y).D) 3 (.list ((s2.1.set p.toNat y).map .int)), rfl, ?_, cs2, (s2.1.set p.toNat y, s2.2), rfl, by simp [hlen], fun d hd => hin d (by simp [hd]), hg, ?_, ?_⟩
        · unfold Ch.D B__law_done_1
          walk_at "pl"
          rw [h3]
          walk_at "pl"
          rw [ixN_nn hc1.1 (by rw [List.length_map, hlen]; exact hc1.2)]
          walk_at "pl"
          rw [List.map_set]
        · walk_at "pl"
        · walk_at "pl"
          exact h4
      | kid c =>
        refine ⟨_, put (put π 2 (Ch.kid c).D) 4 (chD c), rfl, ?_, cs2, (s2.1, c), rfl, hlen, fun d hd => hin d (by simp [hd]), hg, ?_, ?_⟩
        · unfold Ch.D B__law_done_1
          walk_at "pl"
        · walk_at "pl"
          exact h3
        · walk_at "pl") (cs.map Ch.D) (put (put (startP [PyData.tuple [parsD s.1, chD s.2], PyData.tuple (cs.map Ch.D)]) 3 (.list (s.1.map .int))) 4 (chD s.2)) ⟨cs, s, rfl, rfl, hc, rfl, rfl, rfl⟩
  unfold parsD at e ⊢
  walk_at "pl"
  rw [e]
  cases cs2 with
  | cons _ _ => cases hr
  | nil =>
    have hg : s2 = goes cs s := hg
    subst hg
    walk_at "pl"
    rw [h3, h4]
    walk_at "pl"

theorem law_is_even_e (s : List Int × Child) (h : ∀ a p, s.2 = some (a, p) → 0 ≤ p ∧ p < s.1.length) : f__law_is_even [sD s] = some (.bool (refOk s)) := by
  obtain ⟨xs, c⟩ := s
  unfold f__law_is_even F__law_is_even sD srcD parsD
  walk_at "pl"
  cases c with
  | none => simp only [chD]; walk_at "pl"; rfl
  | some x =>
    obtain ⟨a, p⟩ := x
    obtain ⟨h0, h1⟩ := h a p rfl
    simp only [chD]
    walk_at "pl"
    rw [refOk_ix (a := a) h0 h1]
    walk_at "pl"
    rfl

theorem lc1_C (v : Int) (hv0 : -1 ≤ v) (hv : v ≤ 100) (xs : List Int) (c : Child) (i : Nat) (hi : i < xs.length) (π : PD) (h1 : π 1 = some (srcD xs c)) (h2 : π 2 = some (.int (0 + (i : Int)))) (h5 : π 5 = some (.int v)) : C__law_commits_1 π = some (.list ((((rngI (-1) (v + 1).toNat).filter (· != xs[i])).map (fun s => Ch.par i s)).map Ch.D)) := by
  unfold C__law_commits_1
  refine pLc_f PyData.int Ch.D (rngI (-1) (v + 1).toNat) _ _ ?_ (by simp [rngI]; omega) fun y hy => ?_
  · walk_at "pl"
    rw [h5]
    walk_at "pl"
    rw [rngL_I]
    have e : (v - -1) = v + 1 := by omega
    rw [e]
  · refine ⟨_, rfl, ?_, fun _ => ?_⟩
    · walk_at "pl"
      rw [h1]
      unfold srcD parsD
      walk_at "pl"
      rw [h2]
      walk_at "pl"
      have e : (0 + (i : Int)) = (i : Int) := by omega
      rw [atI_map, e, atI_nn (by omega) (by omega)]
      simp only [Int.toNat_natCast, List.getElem?_eq_getElem hi]
      walk_at "pl"
      rfl
    · walk_at "pl"
      rw [h2]
      walk_at "pl"
      have e : (0 + (i : Int)) = (i : Int) := by omega
      rw [e]
      rfl
theorem lc2_C (k : Int) (hk : k ≤ 100) (xs : List Int) (c : Child) (i : Nat) (π : PD) (h1 : π 1 = some (srcD xs c)) (h2 : π 2 = some (.int (0 + (i : Int)))) (h6 : π 6 = some (.int k)) (hk0 : 0 ≤ k) : C__law_commits_2 π = some (.list (((((rngI 0 k.toNat).filter fun a => some (a, 0 + (i : Int)) != c).map fun a => (some (a, 0 + (i : Int)) : Child)).map Ch.kid).map Ch.D)) := by
  unfold C__law_commits_2
  have := pLc_f (fi := pSrc gRng1 (pCons (pV 6) pNil)) (q := qName 14) (ft := pB (pOp gNe (pMk .tuple (pCons (pV 14) (pCons (pV 2) pNil))) (pOp gIx (pV 1) (pC (.int 1))))) (fe := pMk .tuple (pCons (pC (.str "child")) (pCons (pMk .tuple (pCons (pV 14) (pCons (pV 2) pNil))) pNil))) (vs := [14]) (π := π) PyData.int Ch.D (rngI 0 k.toNat) (fun a => some (a, 0 + (i : Int)) != c) (fun a => Ch.kid (some (a, 0 + (i : Int)))) ?_ (by simp [rngI]; omega) fun y hy => ?_
  · rw [List.map_map (g := Ch.kid)]
    exact this
  · walk_at "pl"
    rw [h6]
    walk_at "pl"
    rw [rngL_I]
  · refine ⟨_, rfl, ?_, fun _ => ?_⟩
    · walk_at "pl"
      rw [h1, h2]
      unfold srcD
      walk_at "pl"
      congr 1
      show (!PyData.eqv (chD (some (y, 0 + (i : Int)))) (chD c)) = !(some (y, 0 + (i : Int)) == c)
      congr 1
      cases e : PyData.eqv (chD (some (y, 0 + (i : Int)))) (chD c) with
      | true => rw [chD_inj (eqv_clean _ _ (clean_ch _) (clean_ch _) e)]; simp
      | false =>
        have : some (y, 0 + (i : Int)) ≠ c := by rintro rfl; rw [eqv_refl _ (clean_ch _)] at e; cases e
        simpa using this
    · walk_at "pl"
      rw [h2]
      walk_at "pl"
      rfl
theorem lc3_C (P K : List Ch) (hl : P.length + K.length ≤ 1000) (π : PD) (h3 : π 9 = some (.list (P.map Ch.D))) (h4 : π 10 = some (.list (K.map Ch.D))) : C__law_commits_3 π = some (.list (((P ++ K).map fun c => [c]).map comD)) := by
  unfold C__law_commits_3
  refine pLc_fm Ch.D comD (P ++ K) _ ?_ (by simp; omega) fun c hc => ?_
  · walk_at "pl"
    rw [h3, h4]
    walk_at "pl"
    rw [map_app]
  · refine ⟨_, rfl, ?_⟩
    walk_at "pl"
    rfl
theorem lc4_C (K : List Ch) (c : Ch) (hl : K.length ≤ 1000) (π : PD) (h4 : π 10 = some (.list (K.map Ch.D))) (h5 : π 11 = some c.D) : C__law_commits_4 π = some (.list ((K.map fun d => [c, d]).map comD)) := by
  unfold C__law_commits_4
  refine pLc_fm Ch.D comD K _ ?_ (by omega) fun d hd => ?_
  · walk_at "pl"
    rw [h4]
    walk_at "pl"
  · refine ⟨_, rfl, ?_⟩
    walk_at "pl"
    rw [h5]
    walk_at "pl"
    rfl
theorem lc5_C (n v k : Int) (s : List Int × Child) (hs : SrcOk n v k s) (hl : s.1.length ≤ 1000) (raw : List (List Ch)) (hr : ∀ c ∈ raw, ComIn n v k c) (hn : raw.length ≤ 1000) (π : PD) (h1 : π 1 = some (sD s)) (h3 : π 3 = some (.list (raw.map comD))) :
    C__law_commits_5 π = some (.list ((raw.filter fun c => refOk (goes c s)).map comD)) := by
  unfold C__law_commits_5
  have := pLc_f (fi := pSeqI (pV 3)) (q := qName 12) (ft := pB (pCall f__law_is_even (pCons (pCall f__law_done (pCons (pV 1) (pCons (pV 12) pNil))) pNil))) (fe := pV 12) (vs := [12]) (π := π) comD comD raw (fun c => refOk (goes c s)) (fun c => c) ?_ (by omega) fun c hc => ?_
  · rw [List.map_id'] at this
    exact this
  · walk_at "pl"
    rw [h3]
    walk_at "pl"
  · refine ⟨_, rfl, ?_, fun _ => ?_⟩
    · walk_at "pl"
      rw [h1]
      walk_at "pl"
      rw [law_done_e s c hl fun x hx => fits_inn hs.len ((hr c hc).fits x hx)]
      walk_at "pl"
      have m := hs.mid.goes (hr c hc).fits
      rw [law_is_even_e _ fun a p e => by
        have := m.ch a p e
        have := m.len
        omega]
      walk_at "pl"
    · walk_at "pl"
theorem lstate (n v k : Int) (ps : List (List Int)) (j : Bool) (s : List Int × Child) (hc : CaseOk n v k ps) (hs : SrcOk n v k s) : f__law_commits [caseD n v k ps j, sD s] = some (.list (sortedL ((allCom n v k j s).map comD))) := by
  have hl : s.1.length ≤ 1000 := by have := hs.len; have := hc.n3; omega
  have n1 := hc.n1; have n3 := hc.n3; have v1 := hc.v1; have v3 := hc.v3; have k1 := hc.k1; have k2 := hc.k2
  have hlen := hs.len
  obtain ⟨hp, _, hr⟩ := raw_len n v k j s hs.len hc.n3 hc.v3 hc.k2
  have hperm := lraw_perm (j := j) (s := s) hc
  have hk : (lkids k s.2 n.toNat).length ≤ 7 := by
    rw [lkids_eq]
    refine Nat.le_trans (List.length_filter_le _ _) ?_
    rw [(kids_swap n k n1 n3 k1 k2).length_eq]
    exact kids_len n k n3 k2
  have hlr : (lraw n v k j s).length ≤ 200 := by rw [hperm.length_eq]; exact hr
  unfold f__law_commits F__law_commits
  unfold caseD sD srcD
  walk_at "pl"
  have e1 : (if (!(s.2).isNone) = true then (1 : Int) else 0) = if s.2 = none then 0 else 1 := by cases s.2 <;> rfl
  rw [e1]
  have e2 : (List.replicate (if s.2 = none then (0 : Int) else 1).toNat [PyData.tuple [.str "child", .tuple []]]).flatten = (((lkids k s.2 0).map Ch.kid).map Ch.D) := by
    cases s.2 with
    | none => rfl
    | some x => rfl
  rw [e2]
  obtain ⟨π', e, h1, h8, acc, hacc, h5, h6, h9, h10⟩ := pLoop_rng (q := qName 2) (F := B__law_commits_1) 0 n.toNat (fun i π => π 1 = some (sD s) ∧ π 8 = some (.bool j) ∧ ∃ acc, acc ++ parCh v i (s.1.drop i) = parCh v 0 s.1 ∧ π 5 = some (.int v) ∧ π 6 = some (.int k) ∧ π 9 = some (.list (acc.map Ch.D)) ∧ π 10 = some (.list (((lkids k s.2 i).map Ch.kid).map Ch.D))) (by
    rintro i π hi ⟨h1, h8, acc, hacc, h5, h6, h9, h10⟩
    have hix : i < s.1.length := by omega
    have hd : s.1.drop i = s.1[i] :: s.1.drop (i + 1) := List.drop_eq_getElem_cons hix
    rw [hd] at hacc
    have hal : acc.length ≤ 12 := by have := congrArg List.length hacc; simp at this; omega
    have l1 : ((rngI (-1) (v + 1).toNat).filter (· != s.1[i])).length ≤ 4 := by
      refine Nat.le_trans (List.length_filter_le _ _) ?_
      simp [rngI]; omega
    have l2 : (lkids k s.2 i).length ≤ 1 + i * 2 := by
      unfold lkids
      have : ∀ l : List Int, (l.flatMap fun p => ((rngI 0 k.toNat).filter fun a => (some (a, p) : Child) != s.2).map fun a => (some (a, p) : Child)).length ≤ l.length * 2 := by
        intro l
        induction l with
        | nil => simp
        | cons a l ih =>
          rw [List.flatMap_cons, List.length_append, List.length_map]
          have h3 : ((rngI 0 k.toNat).filter fun x => (some (x, a) : Child) != s.2).length ≤ (rngI 0 k.toNat).length := List.length_filter_le _ _
          have h4 : (rngI 0 k.toNat).length = k.toNat := by simp [rngI]
          simp only [List.length_cons]
          omega
      have h5 := this (rngI 0 i)
      have h6 : (rngI 0 i).length = i := by simp [rngI]
      rw [List.length_append]
      have h7 : (if s.2 = none then ([] : List Child) else [none]).length ≤ 1 := by split <;> simp
      omega
    have l3 : ((rngI 0 k.toNat).filter fun a => (some (a, 0 + (i : Int)) : Child) != s.2).length ≤ 2 := by
      refine Nat.le_trans (List.length_filter_le _ _) ?_
      simp [rngI]; omega
    refine ⟨_, put (put (put π 2 (.int (0 + (i : Int)))) 9 (.list (acc.map Ch.D ++ (((rngI (-1) (v + 1).toNat).filter (· != s.1[i])).map (fun s => Ch.par i s)).map Ch.D))) 10 (.list ((((lkids k s.2 i).map Ch.kid).map Ch.D) ++ ((((rngI 0 k.toNat).filter fun a => some (a, 0 + (i : Int)) != s.2).map fun a => (some (a, 0 + (i : Int)) : Child)).map Ch.kid).map Ch.D)), rfl, ?_, ?_, ?_, acc ++ ((rngI (-1) (v + 1).toNat).filter (· != s.1[i])).map (fun s => Ch.par i s), ?_, ?_, ?_, ?_, ?_⟩
    · unfold B__law_commits_1
      walk_at "pl"
      rw [h9]
      walk_at "pl"
      rw [lc1_C v (by omega) (by omega) s.1 s.2 i hix (put π 2 (.int (0 + (i : Int)))) h1 rfl h5]
      walk_at "pl"
      rw [h10]
      walk_at "pl"
      rw [lc2_C k (by omega) s.1 s.2 i (put (put π 2 (.int (0 + (i : Int)))) 9 (.list (acc.map Ch.D ++ (((rngI (-1) (v + 1).toNat).filter (· != s.1[i])).map (fun s => Ch.par i s)).map Ch.D))) h1 rfl h6 (by omega)]
      walk_at "pl"
    · walk_at "pl"; exact h1
    · walk_at "pl"; exact h8
    · rw [← hacc]; simp [parCh]
    · walk_at "pl"; exact h5
    · walk_at "pl"; exact h6
    · walk_at "pl"
      rw [List.map_append]
    · walk_at "pl"
      unfold lkids
      rw [rngI_succ, List.flatMap_append]
      simp) (put (put (put (put (put (put (put (startP [caseD n v k ps j, sD s]) 4 (.int n)) 5 (.int v)) 6 (.int k)) 7 (.tuple (ps.map tupI))) 8 (.bool j)) 9 (.list [])) 10 (.list (((lkids k s.2 0).map Ch.kid).map Ch.D))) ⟨rfl, rfl, [], rfl, rfl, rfl, rfl, rfl⟩
  have hdr : s.1.drop n.toNat = [] := List.drop_of_length_le (by omega)
  rw [hdr] at hacc
  simp only [parCh, List.append_nil] at hacc
  subst hacc
  unfold caseD sD srcD at e
  rw [e]
  walk_at "pl"
  rw [lc3_C (parCh v 0 s.1) ((lkids k s.2 n.toNat).map Ch.kid) (by simp; omega) π' h9 h10]
  walk_at "pl"
  rw [h8]
  walk_at "pl"
  have h1' : π' 1 = some (sD s) := h1
  have fin : ∀ π3 : PD, π3 1 = some (sD s) → π3 3 = some (.list ((lraw n v k j s).map comD)) → ((pRet (pCall gSortS (pCons C__law_commits_5 pNil)) π3).bind outP) = some (.list (sortedL ((allCom n v k j s).map comD))) := by
    intro π3 g1 g3
    walk_at "pl"
    rw [lc5_C n v k s hs hl (lraw n v k j s) (fun c h => raw_in hs.len (hperm.mem_iff.mp h)) (by omega) π3 g1 g3]
    walk_at "pl"
    have hp2 : ((lraw n v k j s).filter fun c => refOk (goes c s)).Perm (allCom n v k j s) := hperm.filter _
    rw [if_pos (semiOk_coms fun c h => (allCom_in hs.len (hp2.mem_iff.mp h)).ne), sorted_coms hp2]
  have fin2 : ∀ π3 : PD, π3 1 = some (sD s) → π3 3 = some (.list ((lraw n v k j s).map comD)) → (thenP (pRet (pCall gSortS (pCons C__law_commits_5 pNil))) (.nx π3)).bind outP = some (.list (sortedL ((allCom n v k j s).map comD))) := fin
  cases j with
  | false =>
    walk_at "pl"
    have := fin (put π' 3 (.list (((parCh v 0 s.1 ++ (lkids k s.2 n.toNat).map Ch.kid).map fun c => [c]).map comD))) h1 (by
      walk_at "pl"
      unfold lraw
      simp)
    exact this
  | true =>
    walk_at "pl"
    rw [h9]
    walk_at "pl"
    obtain ⟨π4, e4, g1, g10, g3⟩ := pLoop_seq (q := qName 11) (F := B__law_commits_2) Ch.D (parCh v 0 s.1) (fun done left π => π 1 = some (sD s) ∧ π 10 = some (.list (((lkids k s.2 n.toNat).map Ch.kid).map Ch.D)) ∧ π 3 = some (.list ((((parCh v 0 s.1 ++ (lkids k s.2 n.toNat).map Ch.kid).map fun c => [c]) ++ done.flatMap fun c => ((lkids k s.2 n.toNat).map Ch.kid).map fun d => [c, d]).map comD))) (by
      rintro done c left π hx ⟨h1, h10, h3⟩
      refine ⟨_, put (put π 11 c.D) 3 (.list (((((parCh v 0 s.1 ++ (lkids k s.2 n.toNat).map Ch.kid).map fun c => [c]) ++ done.flatMap fun c => ((lkids k s.2 n.toNat).map Ch.kid).map fun d => [c, d]).map comD) ++ (((lkids k s.2 n.toNat).map Ch.kid).map fun d => [c, d]).map comD)), rfl, ?_, ?_, ?_, ?_⟩
      · have h5 : (done.flatMap fun c => ((lkids k s.2 n.toNat).map Ch.kid).map fun d => [c, d]).length = done.length * (lkids k s.2 n.toNat).length := by
          clear h3 hx
          induction done with
          | nil => simp
          | cons a l ih => rw [List.flatMap_cons, List.length_append, ih, List.length_map, List.length_map, List.length_cons, Nat.succ_mul]; omega
        have h6 : done.length ≤ 12 := by have := congrArg List.length hx; simp at this; omega
        have h7 : done.length * (lkids k s.2 n.toNat).length ≤ 12 * 7 := Nat.mul_le_mul h6 hk
        unfold B__law_commits_2
        walk_at "pl"
        rw [h3]
        walk_at "pl"
        rw [lc4_C ((lkids k s.2 n.toNat).map Ch.kid) c (by simp; omega) (put π 11 c.D) h10 rfl]
        have hsz : ((((parCh v 0 s.1 ++ (lkids k s.2 n.toNat).map Ch.kid).map fun c => [c]) ++ done.flatMap fun c => ((lkids k s.2 n.toNat).map Ch.kid).map fun d => [c, d]).map comD).length + ((((lkids k s.2 n.toNat).map Ch.kid).map fun d => [c, d]).map comD).length ≤ 1000000 := by
          simp only [List.length_map, List.length_append, h5]
          omega
        walk_at "pl"
      · walk_at "pl"; exact h1
      · walk_at "pl"; exact h10
      · walk_at "pl"
        rw [map_app, List.flatMap_append]
        simp) (put π' 3 (.list (((parCh v 0 s.1 ++ (lkids k s.2 n.toNat).map Ch.kid).map fun c => [c]).map comD))) ⟨h1, h10, by walk_at "pl"; simp⟩
    rw [e4]
    have := fin π4 g1 (by rw [g3]; unfold lraw; simp)
    exact this

theorem vp1_C {n v k : Int} {ps : List (List Int)} {j : Bool} (i : Int) (hp : PairsOk k v ps) (π : PD) (h0 : π 0 = some (caseD n v k ps j)) (h1 : π 1 = some (.int i)) : C_value_passes_1 π = some (.list (ps.map fun p => .bool (p.getD 1 0 == i))) := by
  unfold C_value_passes_1
  have := pLc_fm (fi := pSeqI (pOp gIx (pV 0) (pC (.int 3)))) (q := qName 2) (fe := pOp gEq (pOp gIx (pV 2) (pC (.int 1))) (pV 1)) (vs := [2]) (π := π) tupI PyData.bool ps (fun p => p.getD 1 0 == i) ?_ (by have := hp.1; omega) fun p hpm => ?_
  · rw [List.map_map] at this
    exact this
  · walk_at "pl"
    rw [h0]
    unfold caseD
    walk_at "pl"
  · obtain ⟨a, b, rfl, _⟩ := hp.2 p hpm
    refine ⟨_, rfl, ?_⟩
    unfold tupI
    walk_at "pl"
    rw [h1]
    walk_at "pl"
    rfl
theorem value_passes_e {n v k : Int} {ps : List (List Int)} {j : Bool} (i : Int) (hp : PairsOk k v ps) : f_value_passes [caseD n v k ps j, .int i] = some (.bool (pV2 ps i)) := by
  unfold f_value_passes F_value_passes
  walk_at "pl"
  rw [vp1_C i hp _ rfl rfl]
  walk_at "pl"
  rfl
theorem pair_passes_e {n v k : Int} {ps : List (List Int)} {j : Bool} (a i : Int) : f_pair_passes [caseD n v k ps j, .int a, .int i] = some (.bool (pP2 ps a i)) := by
  unfold f_pair_passes F_pair_passes caseD
  walk_at "pl"
theorem state_passes_e {n v k : Int} {ps : List (List Int)} {j : Bool} (s : List Int × Child) (h : ∀ a p, s.2 = some (a, p) → 0 ≤ p ∧ p < s.1.length) : f_state_passes [caseD n v k ps j, parsD s.1, chD s.2] = some (.bool (pCh ps s)) := by
  unfold f_state_passes F_state_passes parsD
  obtain ⟨xs, c⟩ := s
  cases c with
  | none => walk_at "pl"; rfl
  | some x =>
    obtain ⟨a, p⟩ := x
    obtain ⟨h0, h1⟩ := h a p rfl
    simp only [chD]
    walk_at "pl"
    rw [refOk_ix (a := a) h0 h1]
    walk_at "pl"
    rw [pair_passes_e]
    rfl
theorem child_passes_e {n v k : Int} {ps : List (List Int)} {j : Bool} (s : List Int × Child) (h : ∀ a p, s.2 = some (a, p) → 0 ≤ p ∧ p < s.1.length) : f_child_passes [caseD n v k ps j, sD s] = some (.bool (pCh ps s)) := by
  unfold f_child_passes F_child_passes sD srcD
  walk_at "pl"
  rw [state_passes_e s h]
  walk_at "pl"

theorem lvo1_C {n v k : Int} {ps : List (List Int)} {j : Bool} (i : Int) (hp : PairsOk k v ps) (π : PD) (h0 : π 0 = some (caseD n v k ps j)) (h1 : π 1 = some (.int i)) : C__law_value_ok_1 π = some (.list ((ps.filter fun p => p.getD 1 0 == i).map tupI)) := by
  unfold C__law_value_ok_1
  have := pLc_f (fi := pSeqI (pOp gIx (pV 0) (pC (.int 3)))) (q := qName 2) (ft := pB (pOp gEq (pOp gIx (pV 2) (pC (.int 1))) (pV 1))) (fe := pV 2) (vs := [2]) (π := π) tupI tupI ps (fun p => p.getD 1 0 == i) (fun p => p) ?_ (by have := hp.1; omega) fun p hpm => ?_
  · rw [List.map_id'] at this
    exact this
  · walk_at "pl"
    rw [h0]
    unfold caseD
    walk_at "pl"
  · obtain ⟨a, b, rfl, _⟩ := hp.2 p hpm
    refine ⟨_, rfl, ?_, fun _ => ?_⟩
    · unfold tupI
      walk_at "pl"
      rw [h1]
      walk_at "pl"
      rfl
    · walk_at "pl"
theorem law_value_ok_e {n v k : Int} {ps : List (List Int)} {j : Bool} (i : Int) (hp : PairsOk k v ps) : f__law_value_ok [caseD n v k ps j, .int i] = some (.bool (pV2 ps i)) := by
  unfold f__law_value_ok F__law_value_ok
  rw [runP_of (xs := [caseD n v k ps j, PyData.int i]) (k := 2) rfl]
  unfold pRet pOp
  rw [lvo1_C i hp _ rfl rfl]
  unfold pMk pNil
  simp only [Option.bind_some, List.length_nil, sz0, if_true]
  rw [gNe_nil (shaped_tupIs _)]
  simp only [Option.map_some, Option.bind_some, outP_rt, List.isEmpty_map, any_filter_ne, Bool.not_not]
  rfl
theorem law_child_ok_e {n v k : Int} {ps : List (List Int)} {j : Bool} (s : List Int × Child) (h : ∀ a p, s.2 = some (a, p) → 0 ≤ p ∧ p < s.1.length) : f__law_child_ok [caseD n v k ps j, parsD s.1, chD s.2] = some (.bool (pCh ps s)) := by
  unfold f__law_child_ok F__law_child_ok parsD caseD
  obtain ⟨xs, c⟩ := s
  cases c with
  | none => walk_at "pl"; rfl
  | some x =>
    obtain ⟨a, p⟩ := x
    obtain ⟨h0, h1⟩ := h a p rfl
    simp only [chD]
    walk_at "pl"
    rw [refOk_ix (a := a) h0 h1]
    walk_at "pl"
    rfl

def shapes01 : List (List Int) := [[1, 2, 1], [2, 2, 1], [2, 3, 2], [3, 3, 2], [3, 1, 1], [1, 3, 2]]
theorem shapes01_ok : ShapesOk shapes01 := by
  refine ⟨by decide, by decide, fun s hs => ?_⟩
  simp only [shapes01, List.mem_cons, List.not_mem_nil, or_false] at hs
  rcases hs with rfl | rfl | rfl | rfl | rfl | rfl <;> exact ⟨_, _, _, rfl, by decide, by decide, by decide, by decide, by decide, by decide⟩

theorem one_w {xs : List PyData} {n : Nat} {Z : WK} (hn : n < 1000000) (h1 : 1 ≤ xs.length) (h2 : xs.length ≤ 1000000) (k : ∀ x ∈ xs, Z (.d x) (n + 1)) : u__law_one_of [.pen, .d (.list xs)] n Z := ⟨xs, rfl, hn, h1, by omega, k⟩
theorem take_w {m : Int} {n : Nat} {Z : WK} (hn : n < 1000000) (h1 : 1 ≤ m) (h2 : m < 1073741824) (k : ∀ r, 0 ≤ r → r < m → Z (.d (.int r)) (n + 1)) : u__law_take [.pen, .d (.int m)] n Z := ⟨m, rfl, hn, h1, h2, k⟩
theorem w_one {p : Nat} {fe : FE} {σ : PSt} {n : Nat} {Q : WK} (xs : List PyData) (h1 : σ p = some .pen) (e : fe (pd σ) = some (.list xs)) (hn : n < 1000000) (l1 : 1 ≤ xs.length) (l2 : xs.length ≤ 1000000) (k : ∀ x ∈ xs, Q (.d x) (n + 1)) : uCallW u__law_one_of (uCons (uV p) (embA (pCons fe pNil))) σ n Q := by
  refine ⟨_, h1, [.list xs], ?_, List.mem_cons_self, one_w hn l1 l2 k⟩
  unfold pCons pNil
  rw [e]
  rfl
theorem w_sone {i : Nat} {B : US} {V : UEnds} {p : Nat} {fe : FE} {σ : PSt} {n : Nat} (xs : List PyData) (h1 : σ p = some .pen) (e : fe (pd σ) = some (.list xs)) (hn : n < 1000000) (l1 : 1 ≤ xs.length) (l2 : xs.length ≤ 1000000) (k : ∀ x ∈ xs, B V (put σ i (.d x)) (n + 1)) : uSeq (uSet i (uCallW u__law_one_of (uCons (uV p) (embA (pCons fe pNil))))) B V σ n := w_one xs h1 e hn l1 l2 k
theorem w_take {p : Nat} {fe : FE} {σ : PSt} {n : Nat} {Q : WK} (m : Int) (h1 : σ p = some .pen) (e : fe (pd σ) = some (.int m)) (hn : n < 1000000) (l1 : 1 ≤ m) (l2 : m < 1073741824) (k : ∀ r, 0 ≤ r → r < m → Q (.d (.int r)) (n + 1)) : uCallW u__law_take (uCons (uV p) (embA (pCons fe pNil))) σ n Q := by
  refine ⟨_, h1, [.int m], ?_, List.mem_cons_self, take_w hn l1 l2 k⟩
  unfold pCons pNil
  rw [e]
  rfl
theorem w_stake {i : Nat} {B : US} {V : UEnds} {p : Nat} {fe : FE} {σ : PSt} {n : Nat} (m : Int) (h1 : σ p = some .pen) (e : fe (pd σ) = some (.int m)) (hn : n < 1000000) (l1 : 1 ≤ m) (l2 : m < 1073741824) (k : ∀ r, 0 ≤ r → r < m → B V (put σ i (.d (.int r))) (n + 1)) : uSeq (uSet i (uCallW u__law_take (uCons (uV p) (embA (pCons fe pNil))))) B V σ n := w_take m h1 e hn l1 l2 k
theorem w_case {i : Nat} {B : US} {V : UEnds} {p : Nat} {fe : FE} {σ : PSt} {n : Nat} (ss : List (List Int)) (h1 : σ p = some .pen) (e : fe (pd σ) = some (.list (ss.map tupI))) (hs : ShapesOk ss) (hn : n + 30 < 1000000) (k : ∀ nn v k ps j, CaseOk nn v k ps → B V (put σ i (.d (caseD nn v k ps j))) (n + 11)) : uSeq (uSet i (uCallW u__law_draw_case (uCons (uV p) (embA (pCons fe pNil))))) B V σ n := by
  refine ⟨_, h1, [.list (ss.map tupI)], ?_, List.mem_cons_self, ss, rfl, hs, hn, fun nn v k' ps j n1 n3 v1 v3 k1 k2 hps hl9 => k nn v k' ps j ⟨n1, n3, v1, v3, k1, k2, hps, hl9⟩⟩
  unfold pCons pNil
  rw [e]
  rfl
theorem w_ifB {ue : UE} {A B : US} {V : UEnds} {σ : PSt} {n : Nat} (h : ue σ n fun v n1 => onB v fun b => if b = true then A V σ n1 else B V σ n1) : uIfS (uB ue) A B V σ n := h
theorem uLoop_each {t : TGt} {U : US} {V : UEnds} (xs : List PyData) (P : PyData → Prop) (Inv : Nat → PSt → Nat → Prop) {σ : PSt} {n : Nat} (hP : ∀ x ∈ xs, P x) (h0 : Inv 0 σ n) (hend : ∀ σ n, Inv xs.length σ n → V.nx σ n)
    (h1 : ∀ i x σ n, i < xs.length → P x → Inv i σ n → ∃ σ1, t x σ = some σ1 ∧ ∀ N : PSt → Nat → Prop, (∀ σ' n', Inv (i + 1) σ' n' → N σ' n') → U { V with nx := N, ct := N, bk := V.nx } σ1 n) : uLoop t U V xs σ n := by
  refine uLoop_ind (fun rest σ n => ∃ i, i + rest.length = xs.length ∧ (∀ x ∈ rest, P x) ∧ Inv i σ n) ?_ ?_ xs σ n ⟨0, by simp, hP, h0⟩
  · rintro σ n ⟨i, hi, _, h⟩
    obtain rfl : i = xs.length := by simpa using hi
    exact hend σ n h
  · rintro x rest σ n ⟨i, hi, hr, h⟩
    obtain ⟨σ1, e, k⟩ := h1 i x σ n (by simp at hi; omega) (hr x (by simp)) h
    exact ⟨σ1, e, fun N hN => k N fun σ' n' h' => hN σ' n' ⟨i + 1, by simp at hi ⊢; omega, fun y hy => hr y (by simp [hy]), h'⟩⟩
theorem cutD_mem {α : Type} {xs : List α} {lo hi : Option Int} {x : α} (h : x ∈ DL.cutD xs lo hi) : x ∈ xs := by
  unfold DL.cutD at h
  first
  | exact List.mem_of_mem_drop (List.mem_of_mem_take h)
  | exact List.mem_of_mem_take (List.mem_of_mem_drop h)
theorem nice_tups {ys : List PyData} {W D : Nat} (h : ∀ x ∈ ys, Nice W D 10 x) {m : Nat} (hl : ys.length ≤ m) : Nice ((W + 2) * m + 3) (D + 1) 10 (.tuple ys) := by
  have := niceL_mono_len (fun x : PyData => x) h hl
  rw [List.map_id'] at this
  exact nice_tuple this
theorem nice_lsts {ys : List PyData} {W D : Nat} (h : ∀ x ∈ ys, Nice W D 10 x) {m : Nat} (hl : ys.length ≤ m) : Nice ((W + 2) * m + 3) (D + 1) 10 (.list ys) := by
  have := niceL_mono_len (fun x : PyData => x) h hl
  rw [List.map_id'] at this
  exact nice_list this
theorem w_sforU {ue : UE} {t : TGt} {U B : US} {V : UEnds} {σ : PSt} {n : Nat} (h : ue σ n fun v n1 => onD v fun x => ∃ ys, gSeq x = some ys ∧ uLoop t U { V with nx := B V } ys σ n1) : uSeq (uFor (uSeqI ue) t U) B V σ n := h
theorem w_forU {ue : UE} {t : TGt} {U : US} {V : UEnds} {σ : PSt} {n : Nat} (h : ue σ n fun v n1 => onD v fun x => ∃ ys, gSeq x = some ys ∧ uLoop t U V ys σ n1) : uFor (uSeqI ue) t U V σ n := h
theorem w_sasgU {ue : UE} {t : TGt} {B : US} {V : UEnds} {σ : PSt} {n : Nat} (h : ue σ n fun v n1 => onD v fun x => ∃ σ1, t x σ = some σ1 ∧ B V σ1 n1) : uSeq (uAsg t ue) B V σ n := h
theorem w_sif {f : FT} {A C : US} {V : UEnds} {σ : PSt} {n : Nat} (b : Bool) (e : f (pd σ) = some b) (ht : b = true → A { V with nx := C V } σ n) (hf : b = false → C V σ n) : uSeq (uIfS (embT f) A uNext) C V σ n := ⟨b, e, by
  cases b
  · exact hf rfl
  · exact ht rfl⟩
theorem w_sparU {i j : Nat} {ua ub : UE} {B : US} {V : UEnds} {σ : PSt} {n : Nat} (h : ua σ n fun v n1 => ub σ n1 fun u n2 => B V (put (put σ i v) j u) n2) : uSeq (uPar i j (uCons ua (uCons ub uNil))) B V σ n := h
theorem w_sparU3 {i j l : Nat} {ua ub uc : UE} {B : US} {V : UEnds} {σ : PSt} {n : Nat} (h : ua σ n fun v n1 => ub σ n1 fun u n2 => uc σ n2 fun w n3 => B V (put (put (put σ i v) j u) l w) n3) : uSeq (uPar3 i j l (uCons ua (uCons ub (uCons uc uNil)))) B V σ n := h
theorem w_retU {ue : UE} {V : UEnds} {σ : PSt} {n : Nat} (h : ue σ n V.rt) : uRet ue V σ n := h
theorem uComp_le {t : TGt} {ue : UE} {σ0 : PSt} {Q : List PyData → Nat → Prop} (P : PyData → Prop) (c : Nat) : ∀ (xs acc : List PyData) (n N : Nat), acc.length + xs.length ≤ 1000000 → n + c * xs.length ≤ N →
    (∀ x ∈ xs, ∃ σ1, t x σ0 = some σ1 ∧ ∀ n1 (Z : WK), n1 + c ≤ N → (∀ y n2, P y → n2 ≤ n1 + c → Z (.d y) n2) → ue σ1 n1 Z) →
    (∀ ys n2, ys.length = xs.length → (∀ y ∈ ys, P y) → n2 ≤ n + c * xs.length → Q (acc ++ ys) n2) → uComp t uYes ue σ0 xs acc n Q
  | [], acc, n, N, hl, hN, h, k => by
    have := k [] n rfl (by simp) (by omega)
    simp only [List.append_nil] at this
    exact this
  | x :: xs, acc, n, N, hl, hN, h, k => by
    have e0 : c * (x :: xs).length = c * xs.length + c := Nat.mul_succ _ _
    obtain ⟨σ1, e, h1⟩ := h x (by simp)
    refine ⟨σ1, e, ?_⟩
    simp only [uYes, if_true]
    refine h1 n _ (by omega) fun y n2 hy hn2 => ?_
    show _ ∧ _
    refine ⟨list_lt (by simp at hl; omega), ?_⟩
    refine uComp_le P c xs (acc ++ [y]) n2 N (by simp at hl ⊢; omega) (by omega) (fun z hz => h z (by simp [hz])) fun ys n3 hy1 hy2 hn3 => ?_
    have := k (y :: ys) n3 (by simp [hy1]) (by
      intro z hz
      rcases List.mem_cons.mp hz with rfl | hz
      · exact hy
      · exact hy2 z hz) (by omega)
    rw [List.append_assoc]
    exact this
theorem uLc_le {ui : UI} {t : TGt} {ue : UE} {vs : List Nat} {σ : PSt} {n : Nat} {Q : WK} (P : PyData → Prop) (c : Nat) (xs : List PyData) (hi : ∀ Q' : List PyData → Nat → Prop, Q' xs n → ui σ n Q') (hl : xs.length ≤ 1000000)
    (h : ∀ x ∈ xs, ∃ σ1, t x (wipeP σ vs) = some σ1 ∧ ∀ n1 (Z : WK), n1 + c ≤ n + c * xs.length → (∀ y n2, P y → n2 ≤ n1 + c → Z (.d y) n2) → ue σ1 n1 Z)
    (k : ∀ ys n2, ys.length = xs.length → (∀ y ∈ ys, P y) → n2 ≤ n + c * xs.length → Q (.d (.list ys)) n2) : uLc ui t uYes ue vs σ n Q :=
  hi _ (uComp_le P c xs [] n _ (by simpa using hl) (Nat.le_refl _) h k)

theorem wsh1_C {n v k : Int} {ps : List (List Int)} {j : Bool} (s : List Int × Child) (hp : PairsOk k v ps) (hl : s.1.length ≤ 1000) (π : PD) (h0 : π 0 = some (caseD n v k ps j)) (h1 : π 1 = some (sD s)) : C_wished_1 π = some (.list ((s.1.map fun x => if pV2 ps x = true then x else -1).map .int)) := by
  unfold C_wished_1
  refine pLc_fm (fi := _) (q := qName 3) PyData.int PyData.int s.1 (fun x => if pV2 ps x = true then x else -1) ?_ (by omega) fun x hx => ?_
  · walk_at "pls"
    unfold parsD
    walk_at "pl"
  · refine ⟨_, rfl, ?_⟩
    walk_at "pls"
    rw [value_passes_e x hp]
    cases pV2 ps x <;> rfl
theorem wished_e {n v k : Int} {ps : List (List Int)} {j : Bool} (s : List Int × Child) (hp : PairsOk k v ps) (hm : InPl s) (hl : s.1.length ≤ 1000) : f_wished [caseD n v k ps j, sD s] = some (sD (wish ps s)) := by
  unfold f_wished F_wished
  walk_at "pl"
  rw [wsh1_C s hp hl _ rfl rfl]
  walk_at "pl"
  rw [child_passes_e s hm]
  walk_at "pl"
  unfold sD srcD wish
  cases pCh ps s <;> rfl

theorem lwsh1_C {n v k : Int} {ps : List (List Int)} {j : Bool} (s : List Int × Child) (hp : PairsOk k v ps) (hl : s.1.length ≤ 1000) (π : PD) (h0 : π 0 = some (caseD n v k ps j)) (h1 : π 1 = some (sD s)) : C__law_wished_1 π = some (.list ((s.1.map fun x => if pV2 ps x = true then x else -1).map .int)) := by
  unfold C__law_wished_1
  refine pLc_fm (fi := _) (q := qName 3) PyData.int PyData.int s.1 (fun x => if pV2 ps x = true then x else -1) ?_ (by omega) fun x hx => ?_
  · walk_at "pls"
    unfold parsD
    walk_at "pl"
  · refine ⟨_, rfl, ?_⟩
    walk_at "pls"
    rw [law_value_ok_e x hp]
    cases pV2 ps x <;> rfl
theorem law_wished_e {n v k : Int} {ps : List (List Int)} {j : Bool} (s : List Int × Child) (hp : PairsOk k v ps) (hm : InPl s) (hl : s.1.length ≤ 1000) : f__law_wished [caseD n v k ps j, sD s] = some (sD (wish ps s)) := by
  unfold f__law_wished F__law_wished
  walk_at "pl"
  rw [lwsh1_C s hp hl _ rfl rfl]
  walk_at "pl"
  rw [law_child_ok_e s hm]
  walk_at "pl"
  unfold sD srcD wish
  cases pCh ps s <;> rfl

theorem is_parent_state_e {n v k : Int} {ps : List (List Int)} {j : Bool} (x : PyData) : f_is_parent_state [caseD n v k ps j, x] = some (.bool (isWithin x (-1) (v - 1))) := by
  unfold f_is_parent_state F_is_parent_state
  walk_at "pl"
  have e : gSub (.int v) (.int 1) = some (.int (v - 1)) := rfl
  try rw [e]
  walk_at "pl"
  rw [is_within_e]
  rfl
theorem is_child_state_e {n v k : Int} {ps : List (List Int)} {j : Bool} (x : PyData) : f_is_child_state [caseD n v k ps j, x] = some (.bool (dChIn n k x)) := by
  unfold f_is_child_state F_is_child_state
  cases x with
  | tuple xs =>
    match xs with
    | [] => walk_at "pl"; rfl
    | [a] => walk_at "pl"; rfl
    | [a, p] =>
      walk_at "pl"
      have e : gSub (.int k) (.int 1) = some (.int (k - 1)) := rfl
      have e2 : gSub (.int n) (.int 1) = some (.int (n - 1)) := rfl
      try rw [e, e2]
      walk_at "pl"
      rw [is_within_e, is_within_e]
      walk_at "pl"
      rfl
    | a :: b :: c :: r =>
      walk_at "pl"
      have e : ((((r.length + 1 + 1 + 1 : Nat) : Int)) == 2) = false := by
        have : ((r.length + 1 + 1 + 1 : Nat) : Int) ≠ 2 := by omega
        simpa using this
      rw [e]
      rfl
  | _ => walk_at "pl"; rfl
theorem ast1_C {n v k : Int} {ps : List (List Int)} {j : Bool} (xs : List PyData) (c : PyData) (hl : xs.length ≤ 1000) (π : PD) (h0 : π 0 = some (caseD n v k ps j)) (h1 : π 1 = some (.tuple [.tuple xs, c])) : C_are_states_1 π = some (.list (xs.map fun x => .bool (isWithin x (-1) (v - 1)))) := by
  unfold C_are_states_1
  refine pLc_m xs (fun x => .bool (isWithin x (-1) (v - 1))) ?_ (by omega) fun x hx => ?_
  · walk_at "pl"
    rw [h1]
    walk_at "pl"
  · refine ⟨_, rfl, ?_⟩
    walk_at "pl"
    rw [h0]
    walk_at "pl"
    exact is_parent_state_e x
theorem are_states_e {n v k : Int} {ps : List (List Int)} {j : Bool} (x : PyData) (hn : n ≤ 3) : f_are_states [caseD n v k ps j, x] = some (.bool (dSts n v k x)) := by
  unfold f_are_states F_are_states
  cases x with
  | tuple ys =>
    match ys with
    | [] => walk_at "pl"; rfl
    | [a] => walk_at "pl"; cases a <;> rfl
    | [.tuple xs, c] =>
      walk_at "pl"
      by_cases hl : (xs.length : Int) = n
      · have e : (((xs.length : Nat) : Int) == n) = true := by simpa using hl
        rw [e]
        walk_at "pl"
        rw [ast1_C xs c (by omega) _ rfl rfl]
        walk_at "pl"
        rw [is_child_state_e]
        have e2 : dSts n v k (.tuple [.tuple xs, c]) = ((xs.length : Int) == n && xs.all (fun x => isWithin x (-1) (v - 1)) && dChIn n k c) := rfl
        rw [e2, e]
        cases xs.all fun x => isWithin x (-1) (v - 1) <;> rfl
      · have e : (((xs.length : Nat) : Int) == n) = false := by simpa using hl
        rw [e]
        walk_at "pl"
        have e2 : dSts n v k (.tuple [.tuple xs, c]) = ((xs.length : Int) == n && xs.all (fun x => isWithin x (-1) (v - 1)) && dChIn n k c) := rfl
        rw [e2, e]
        rfl
    | [.none, c] => walk_at "pl"; rfl
    | [.bool _, c] => walk_at "pl"; rfl
    | [.int _, c] => walk_at "pl"; rfl
    | [.str _, c] => walk_at "pl"; rfl
    | [.list _, c] => walk_at "pl"; rfl
    | [.dict _, c] => walk_at "pl"; rfl
    | a :: b :: c :: r =>
      walk_at "pl"
      have e : ((((r.length + 1 + 1 + 1 : Nat) : Int)) == 2) = false := by
        have : ((r.length + 1 + 1 + 1 : Nat) : Int) ≠ 2 := by omega
        simpa using this
      rw [e]
      cases a <;> rfl
  | _ => walk_at "pl"; rfl
def dRef : PyData → Bool
  | .tuple [.tuple xs, .tuple [_, p]] => dInt0 (xs.getD (dInt0 p).toNat (.int (-1))) != -1
  | _ => true
def dSrc (n v k : Int) (x : PyData) : Bool := dSts n v k x && dRef x
theorem dChIn_inv {n k : Int} {c : PyData} (h : dChIn n k c = true) : c = .tuple [] ∨ ∃ a p : Int, c = .tuple [.int a, .int p] ∧ 0 ≤ a ∧ a ≤ k - 1 ∧ 0 ≤ p ∧ p ≤ n - 1 := by
  unfold dChIn at h
  split at h
  · exact .inl rfl
  · simp only [Bool.and_eq_true] at h
    obtain ⟨a, rfl, a0, a1⟩ := within_int h.1
    obtain ⟨p, rfl, p0, p1⟩ := within_int h.2
    exact .inr ⟨a, p, rfl, a0, a1, p0, p1⟩
  · cases h
theorem dRef_ch {is : List Int} {a p : Int} (h0 : 0 ≤ p) (h1 : p < is.length) : dRef (.tuple [.tuple (is.map .int), .tuple [.int a, .int p]]) = (is.getD p.toNat (-1) != -1) := by
  have : p.toNat < is.length := by omega
  simp [dRef, dInt0, this]
theorem is_source_any {n v k : Int} {ps : List (List Int)} {j : Bool} (x : PyData) (hn : n ≤ 3) : f_is_source [caseD n v k ps j, x] = some (.bool (dSrc n v k x)) := by
  unfold f_is_source F_is_source
  walk_at "pl"
  rw [are_states_e x hn]
  walk_at "pl"
  unfold dSrc
  cases hs : dSts n v k x with
  | false => walk_at "pl"
  | true =>
    obtain ⟨xs, c, rfl, h1, h2, h3⟩ := dSts_inv hs
    obtain ⟨is, rfl, _⟩ := withins h2
    have hlen : (is.length : Int) = n := by simpa using h1
    rcases dChIn_inv h3 with rfl | ⟨a, p, rfl, a0, a1, p0, p1⟩
    · walk_at "pl"
      rfl
    · rw [dRef_ch p0 (by omega)]
      walk_at "pl"
      rw [refOk_ix (a := p) p0 (by omega)]
      walk_at "pl"
      rfl

theorem law_is_integer_e (d : PyData) (lo hi : Int) : f__law_is_integer [d, .int lo, .int hi] = some (.bool (isWithin d lo hi)) := by
  unfold f__law_is_integer F__law_is_integer
  cases d <;> simp only [isWithin] <;> walk_at "pl" <;> try rfl
theorem lis1_C {n v k : Int} {ps : List (List Int)} {j : Bool} (xs : List PyData) (c : PyData) (hl : xs.length ≤ 1000) (π : PD) (h0 : π 0 = some (caseD n v k ps j)) (h1 : π 1 = some (.tuple [.tuple xs, c])) : C__law_is_source_1 π = some (.list (xs.map fun x => .bool (isWithin x (-1) (v - 1)))) := by
  unfold C__law_is_source_1
  refine pLc_m xs (fun x => .bool (isWithin x (-1) (v - 1))) ?_ (by omega) fun x hx => ?_
  · walk_at "pl"
    rw [h1]
    walk_at "pl"
  · refine ⟨_, rfl, ?_⟩
    walk_at "pl"
    rw [h0]
    walk_at "pl"
    have e : gSub (.int v) (.int 1) = some (.int (v - 1)) := rfl
    try rw [e]
    walk_at "pl"
    exact law_is_integer_e x _ _
theorem law_is_source_any {n v k : Int} {ps : List (List Int)} {j : Bool} (x : PyData) (hn : n ≤ 3) : f__law_is_source [caseD n v k ps j, x] = some (.bool (dSrc n v k x)) := by
  unfold f__law_is_source F__law_is_source
  cases x with
  | tuple ys =>
    match ys with
    | [] => walk_at "pl"; rfl
    | [a] => walk_at "pl"; cases a <;> rfl
    | [.tuple xs, c] =>
      walk_at "pl"
      have e2 : dSts n v k (.tuple [.tuple xs, c]) = ((xs.length : Int) == n && xs.all (fun x => isWithin x (-1) (v - 1)) && dChIn n k c) := rfl
      by_cases hl : (xs.length : Int) = n
      · have e : (((xs.length : Nat) : Int) == n) = true := by simpa using hl
        rw [e]
        walk_at "pl"
        rw [lis1_C xs c (by omega) _ rfl rfl]
        walk_at "pl"
        rw [if_pos (shaped_boolsL (fun x => isWithin x (-1) (v - 1)) xs), any_is_false (fun x => isWithin x (-1) (v - 1)) xs]
        unfold dSrc
        rw [e2, e]
        cases hall : xs.all fun x => isWithin x (-1) (v - 1) with
        | false => rfl
        | true =>
          obtain ⟨is, rfl, _⟩ := withins hall
          have hlen : (is.length : Int) = n := by simpa using hl
          cases c with
          | tuple cs =>
            match cs with
            | [] => rfl
            | [a] => walk_at "pl"; rfl
            | [a, p] =>
              walk_at "pl"
              rw [law_is_integer_e]
              walk_at "pl"
              have e3 : dChIn n k (.tuple [a, p]) = (isWithin a 0 (k - 1) && isWithin p 0 (n - 1)) := rfl
              rw [e3]
              cases ha : isWithin a 0 (k - 1) with
              | false => rfl
              | true =>
                walk_at "pl"
                rw [law_is_integer_e]
                walk_at "pl"
                cases hp : isWithin p 0 (n - 1) with
                | false => rfl
                | true =>
                  obtain ⟨i, rfl, _, _⟩ := within_int ha
                  obtain ⟨q, rfl, q0, q1⟩ := within_int hp
                  rw [dRef_ch q0 (by omega)]
                  walk_at "pl"
                  rw [refOk_ix (a := q) q0 (by omega)]
                  walk_at "pl"
                  rfl
            | a :: b :: c :: r =>
              walk_at "pl"
              have e : ((((r.length + 1 + 1 + 1 : Nat) : Int)) == 2) = false := by
                have : ((r.length + 1 + 1 + 1 : Nat) : Int) ≠ 2 := by omega
                simpa using this
              rw [e]
              rfl
          | _ => walk_at "pl" <;> rfl
      · have e : (((xs.length : Nat) : Int) == n) = false := by simpa using hl
        rw [e]
        walk_at "pl"
        unfold dSrc
        rw [e2, e]
        rfl
    | [.none, c] => walk_at "pl"; rfl
    | [.bool _, c] => walk_at "pl"; rfl
    | [.int _, c] => walk_at "pl"; rfl
    | [.str _, c] => walk_at "pl"; rfl
    | [.list _, c] => walk_at "pl"; rfl
    | [.dict _, c] => walk_at "pl"; rfl
    | a :: b :: c :: r =>
      walk_at "pl"
      have e : ((((r.length + 1 + 1 + 1 : Nat) : Int)) == 2) = false := by
        have : ((r.length + 1 + 1 + 1 : Nat) : Int) ≠ 2 := by omega
        simpa using this
      rw [e]
      cases a <;> rfl
  | _ => walk_at "pl"; rfl

abbrev NV (x : PyData) : Prop := Nice 420 5 81 x
theorem nv_of {W D : Nat} {x : PyData} (h : Nice W D 10 x) (hw : W ≤ 420 := by omega) (hd : D ≤ 5 := by omega) : NV x := h.mono hw hd (by omega)
theorem draw_source_w {n v k : Int} {ps : List (List Int)} {j : Bool} {q : Nat} {Z : WK} (hc : CaseOk n v k ps) (hq : q + 20 < 1000000) (h : ∀ s q', SrcOk n v k s → q' ≤ q + 7 → Z (.d (sD s)) q') : u__law_draw_source [.pen, .d (caseD n v k ps j)] q Z := by
  have n1 := hc.n1; have n3 := hc.n3
  unfold u__law_draw_source runW
  refine ⟨rfl, ?_⟩
  unfold U__law_draw_source
  refine w_sset (sD (List.replicate n.toNat (-1), none)) ?_ ?_
  · walk_at "pl"
    rw [List.flatten_replicate_singleton]
    unfold sD srcD parsD chD
    rw [List.map_replicate]
  refine w_seq ?_
  refine w_take 6 (p := 0) rfl rfl (by omega) (by omega) (by omega) fun r r0 r1 => ?_
  refine ⟨rngL 0 r.toNat, by walk_at "pl", ?_⟩
  refine uLoop_rng 0 r.toNat (fun i σ q' => σ 0 = some .pen ∧ σ 1 = some (.d (caseD n v k ps j)) ∧ (∃ s, SrcOk n v k s ∧ σ 2 = some (.d (sD s))) ∧ q' ≤ q + 1 + i) _ _ ⟨rfl, rfl, ⟨_, src0 hc, rfl⟩, by omega⟩ (fun σ q' ⟨g0, g1, ⟨s, hs, g2⟩, gq⟩ => ?_) fun i σ q' hi ⟨g0, g1, ⟨s, hs, g2⟩, gq⟩ => ⟨_, rfl, fun N hN => ?_⟩
  · exact w_ret (x := sD s) (by walk_at "pls") (h s q' hs (by omega))
  · have hl : s.1.length ≤ 1000 := by have := hs.len; omega
    unfold B__law_draw_source_1
    refine ⟨sD s, by clear r0 r1 hi gq hq n1 n3 hl; walk_at "pls", ?_⟩
    refine w_one (p := 0) (sortedL ((allCom n v k j s).map comD)) g0 (by clear r0 r1 hi gq hq n1 n3 hl; walk_at "pls"; exact lstate n v k ps j s hc hs) (by omega) ?_ ?_ fun x hx => ?_
    · rw [sortedL_len, List.length_map]
      exact List.length_pos_iff.mpr (allCom_ne (j := j) hc hs)
    · rw [sortedL_len, List.length_map]
      have := allCom_len (j := j) hc hs
      omega
    obtain ⟨c, hcm, rfl⟩ := List.mem_map.mp (sortedL_mem.mp hx)
    have hin := allCom_in hs.len hcm
    unfold uNil
    show onDs [.d (sD s), .d (comD c)] _
    rw [onDs_2]
    exact ⟨_, law_done_e s c hl fun x hx => fits_inn hs.len (hin.fits x hx), hN _ _ ⟨g0, g1, ⟨_, allCom_ok hs hcm, rfl⟩, by omega⟩⟩
theorem near_w {n v k : Int} {ps : List (List Int)} {j : Bool} {s : List Int × Child} {q : Nat} {Z : WK} (hc : CaseOk n v k ps) (hs : SrcOk n v k s) (hq : q + 1000 < 900000) (h : ∀ y q', NV y → q' ≤ q + 210 → Z (.d y) q') : u__law_near [.pen, .d (caseD n v k ps j), .d (sD s)] q Z := by
  have n1 := hc.n1; have n3 := hc.n3; have v1 := hc.v1; have v3 := hc.v3; have k1 := hc.k1; have k2 := hc.k2
  have hl := hs.len
  have np : Nice 60 1 10 (parsD s.1) := nice_pars (fun x hx => by have := hs.st x hx; omega) (by omega)
  have nc : Nice 40 1 10 (chD s.2) := nice_chd (hs.mid.small n3 v3 k2)
  have si : ∀ i : Int, -5 ≤ i → i ≤ 10 → Nice 20 0 10 (.int i) := fun i h1 h2 => nice_small (by omega) (by omega)
  unfold u__law_near runW
  refine ⟨rfl, ?_⟩
  unfold U__law_near
  refine w_sasg (sD s) _ rfl (by unfold sD srcD; rfl) ?_
  refine w_sparU ?_
  refine w_take n (p := 0) rfl (by clear n1 n3 v1 v3 k1 k2 hl hq; walk_at "pl") (by omega) (by omega) (by omega) fun p p0 p1 => ?_
  refine w_take 6 (p := 0) rfl rfl (by omega) (by omega) (by omega) fun w w0 w1 => ?_
  have l1 := cutD_len (s.1.map PyData.int) none (some p)
  have l2 := cutD_len (s.1.map PyData.int) (some (p + 1)) none
  rw [List.length_map] at l1 l2
  refine w_sif (decide (w < 2)) (by walk_at "pl") (fun _ => ?_) fun _ => ?_
  · refine w_sset (.list [.int (-1), .int (-2), .int v, .int 0, .bool true, .none]) (by walk_at "pl") ?_
    walk_at "pl"
    refine ⟨.tuple (DL.cutD (s.1.map .int) none (some p)), rfl, one_w (by omega) (by simp) (by simp) fun y hy => ?_⟩
    rw [onDs_1]
    have hy2 : Nice 20 0 10 y := by
      simp only [List.mem_cons, List.not_mem_nil, or_false] at hy
      rcases hy with rfl | rfl | rfl | rfl | rfl | rfl <;> first | exact si _ (by omega) (by omega) | exact nice_bool | exact nice_none
    refine ⟨list_len (by simp), _, gAdd_c1 (by simp only [List.length_cons, List.length_nil]; omega), .tuple (DL.cutD (s.1.map .int) (some (p + 1)) none), rfl, _, gAdd_c1 (by simp only [List.length_append, List.length_cons, List.length_nil]; omega), h _ _ ?_ (by omega)⟩
    have hn : ∀ x ∈ DL.cutD (s.1.map .int) none (some p) ++ [y] ++ DL.cutD (s.1.map .int) (some (p + 1)) none, Nice 20 0 10 x := by
      intro x hx
      have key : ∀ y ∈ s.1.map PyData.int, Nice 20 0 10 y := by
        intro y hy
        obtain ⟨i, hi, rfl⟩ := List.mem_map.mp hy
        have := hs.st i hi
        exact si i (by omega) (by omega)
      simp only [List.mem_append, List.mem_cons, List.not_mem_nil, or_false] at hx
      rcases hx with (hx | rfl) | hx
      · exact key x (cutD_mem hx)
      · exact hy2
      · exact key x (cutD_mem hx)
    have hh : Nice 223 1 10 _ := nice_tups hn (m := 10) (by simp only [List.length_append, List.length_cons, List.length_nil]; omega)
    exact nv_of (nice_tup2 hh nc)
  refine w_sif (decide (w < 4)) (by walk_at "pl") (fun _ => ?_) fun _ => ?_
  · refine w_sset (.list [.tuple [], .list [], .tuple [.int 0, .int 0], .tuple [.int 0, .int p], .tuple [.int k, .int p], .tuple [.int 0, .int n], .tuple [.int (-1), .int 0], .tuple [.int 0, .int (-1)], .tuple [.bool false, .int 0], .tuple [.int 0, .int 0, .int 0], .none]) (by walk_at "pl") ?_
    walk_at "pl"
    refine one_w (by omega) (by simp) (by simp) fun y hy => ?_
    have hy2 : Nice 100 1 10 y := by
      have n0 : Nice 3 1 10 (.tuple []) := (nice_tuple (W := 0) (D := 0) (niceL_nil (B := 10))).mono
      have n00 : Nice 3 1 10 (.list []) := (nice_list (W := 0) (D := 0) (niceL_nil (B := 10))).mono
      have t2 : ∀ a b : Int, -5 ≤ a → a ≤ 10 → -5 ≤ b → b ≤ 10 → Nice 100 1 10 (.tuple [.int a, .int b]) := fun a b h1 h2 h3 h4 => (nice_tup2 (si a h1 h2) (si b h3 h4)).mono
      simp only [List.mem_cons, List.not_mem_nil, or_false] at hy
      rcases hy with rfl | rfl | rfl | rfl | rfl | rfl | rfl | rfl | rfl | rfl | rfl
      · exact n0.mono
      · exact n00.mono
      · exact t2 _ _ (by omega) (by omega) (by omega) (by omega)
      · exact t2 _ _ (by omega) (by omega) (by omega) (by omega)
      · exact t2 _ _ (by omega) (by omega) (by omega) (by omega)
      · exact t2 _ _ (by omega) (by omega) (by omega) (by omega)
      · exact t2 _ _ (by omega) (by omega) (by omega) (by omega)
      · exact t2 _ _ (by omega) (by omega) (by omega) (by omega)
      · exact (nice_tup2 (nice_bool (W := 20) (D := 0)) (si 0 (by omega) (by omega))).mono
      · exact (nice_tup3 (si 0 (by omega) (by omega)) (si 0 (by omega) (by omega)) (si 0 (by omega) (by omega))).mono
      · exact nice_none
    show onDs [.d (parsD s.1), .d y] _
    rw [onDs_2]
    exact ⟨list_len (by simp), h _ _ (nv_of (nice_tup2 np hy2)) (by omega)⟩
  refine w_sif (w == 4) (by walk_at "pl") (fun _ => ?_) fun _ => ?_
  · refine w_sset (.list [.tuple [parsD s.1], .tuple [chD s.2, parsD s.1], .list [parsD s.1, chD s.2], .tuple [.list (s.1.map .int), chD s.2], .tuple [.tuple (DL.cutD (s.1.map .int) (some 1) none), chD s.2]]) ?_ ?_
    · have e1 : gList [parsD s.1] = some (.list (s.1.map .int)) := rfl
      have e2 : gSl (parsD s.1) (some 1) none = some (.tuple (DL.cutD (s.1.map .int) (some 1) none)) := rfl
      clear hl n1 n3 v1 v3 k1 k2 hq p0 p1 w0 w1 l1 l2
      walk_at "pls"
    refine w_one (p := 0) _ rfl (by rfl) (by omega) (by simp) (by simp) fun y hy => h _ _ ?_ (by omega)
    have nl : Nice 60 1 10 (.list (s.1.map .int)) := (nice_list (niceL_mono_len (W := 14) (D := 0) PyData.int (fun x hx => nice_small (by have := hs.st x hx; omega) (by have := hs.st x hx; omega)) (m := 3) (by omega))).mono
    have l3 := cutD_len (s.1.map PyData.int) (some 1) none
    rw [List.length_map] at l3
    have ncut : Nice 223 1 10 (.tuple (DL.cutD (s.1.map .int) (some 1) none)) := nice_tups (W := 20) (D := 0) (m := 10) (fun x hx => by
      obtain ⟨i, hi, rfl⟩ := List.mem_map.mp (cutD_mem hx)
      have := hs.st i hi
      exact si i (by omega) (by omega)) (by omega)
    simp only [List.mem_cons, List.not_mem_nil, or_false] at hy
    rcases hy with rfl | rfl | rfl | rfl | rfl
    · exact nv_of (nice_tuple (niceL_cons np (niceL_nil (W := 0))))
    · exact nv_of (nice_tup2 nc np)
    · exact nv_of (nice_list (niceL_cons np (niceL_cons nc (niceL_nil (W := 0)))))
    · exact nv_of (nice_tup2 nl nc)
    · exact nv_of (nice_tup2 ncut nc)
  · walk_at "pl"
    refine ⟨sD s, 110, 2, 70, rfl, by omega, (nice_srcM hs.mid n3 v3 k2).mono (by omega) (by omega) (by omega), by omega, by omega, by omega, fun y hy => h _ _ hy.mono (by omega)⟩
theorem B2_w (V : UEnds) {n v k : Int} {ps : List (List Int)} {j : Bool} {σ : PSt} {q : Nat} (hc : CaseOk n v k ps) (x : PyData) (hx : NV x) (g3 : σ 3 = some (.d (caseD n v k ps j))) (g6 : σ 6 = some (.d x)) (hk : V.nx (put σ 5 (.d (.str x.shown))) q) : B_law_2 V σ q := by
  have hs : Showy x := hx.showy
  unfold B_law_2
  refine w_sset (.str x.shown) (by walk_at "pls") ?_
  refine w_ifF ?_ hk
  have e1 := is_source_any (ps := ps) (v := v) (k := k) (j := j) x hc.n3
  have e2 := law_is_source_any (ps := ps) (v := v) (k := k) (j := j) x hc.n3
  have e3 := same_e (x := .bool (dSrc n v k x)) trivial
  walk_at "pls"
theorem B3_w (V : UEnds) {σ : PSt} {q : Nat} (g1 : σ 1 = some .pen) (hq : q ≤ 90000) (hk : ∀ σ' q', σ' 1 = some .pen → q' ≤ q + 3000 → V.nx σ' q') : B_law_3 V σ q := by
  unfold B_law_3
  refine w_case shapes01 g1 (by walk_at "pls"; rfl) shapes01_ok (by omega) fun n v k ps j hc => ?_
  have n3 := hc.n3; have v3 := hc.v3; have k2 := hc.k2
  refine w_sset_u (fun x q' => ∃ s, SrcOk n v k s ∧ x = sD s ∧ q' ≤ q + 30) (fun Z hZ => ?_) ?_
  · refine ⟨.pen, g1, [caseD n v k ps j], rfl, List.mem_cons_self, draw_source_w hc (by omega) fun s q' hs hq' => hZ _ _ ⟨s, hs, rfl, by omega⟩⟩
  rintro x q1 ⟨s, hs, rfl, hq1⟩
  have hl := hs.len
  have ns := nice_srcM hs.mid n3 v3 k2
  have hshow : Showy (.tuple [caseD n v k ps j, sD s]) := (nice_tup2 (B := 10) ((nice_caseD (j := j) hc).mono (W' := 500) (D' := 3)) (ns.mono (W' := 110) (D' := 3))).showy
  have c1 := child_passes_e (n := n) (v := v) (k := k) (ps := ps) (j := j) s (mid_inPl hs.mid)
  have c2 := law_child_ok_e (n := n) (v := v) (k := k) (ps := ps) (j := j) s (mid_inPl hs.mid)
  have c3 := wished_e (n := n) (v := v) (k := k) (j := j) s hc.pok (mid_inPl hs.mid) (by omega)
  have c4 := law_wished_e (n := n) (v := v) (k := k) (j := j) s hc.pok (mid_inPl hs.mid) (by omega)
  have c5 := same_e (x := .bool (pCh ps s)) trivial
  have c6 := same_e (samey_le (samey_src (wish ps s) (by simp [wish]; omega)) (show 3 ≤ 20 by decide))
  refine w_sset (.str (PyData.tuple [caseD n v k ps j, sD s]).shown) (by clear hq hq1 hl n3 v3 k2; walk_at "pls") ?_
  refine w_sif0 (by clear hq hq1 hl n3 v3 k2; walk_at "pls") ?_
  refine w_sif0 (by clear hq hq1 hl n3 v3 k2; walk_at "pls") ?_
  refine w_forU ?_
  refine ⟨.list [sD s, .none, .tuple [], .dict []], by clear hq hq1 hl n3 v3 k2 c1 c2 c3 c4 c5 c6; walk_at "pls", ?_⟩
  unfold C_law_1
  refine uLc_le NV 210 (rngL 0 12) (fun Q q => by walk_at "pl"; exact q) (by simp [rngL]) (fun x hx => ⟨_, rfl, fun n1 Z hn1 hZ => ?_⟩) fun ys q4 hy1 hy2 hq4 => ?_
  · rw [rngL_len] at hn1
    refine ⟨.pen, g1, [caseD n v k ps j, sD s], rfl, List.mem_cons_self, near_w hc hs (by omega) fun y n2 hy hn2 => hZ y n2 hy hn2⟩
  · rw [rngL_len] at hy1 hq4
    refine ⟨.list ([sD s, .none, .tuple [], .dict []] ++ ys), gAdd_c2 (by simp; omega), _, rfl, ?_⟩
    refine uLoop_each _ NV (fun i σ' q' => σ' 1 = some .pen ∧ σ' 3 = some (.d (caseD n v k ps j)) ∧ q' = q4) (fun y hy => ?_) ⟨g1, rfl, rfl⟩ (fun σ' q5 h => hk σ' q5 h.1 (by have := h.2.2; omega)) fun i x σ' q5 hi hx h => ⟨_, rfl, fun N hN => ?_⟩
    · rcases List.mem_append.mp hy with hy | hy
      · simp only [List.mem_cons, List.not_mem_nil, or_false] at hy
        rcases hy with rfl | rfl | rfl | rfl
        · exact nv_of ns
        · exact nice_none
        · exact nv_of (nice_tuple (W := 0) (D := 0) (niceL_nil (B := 10)))
        · exact nice_mk (by decide +kernel)
      · exact hy2 y hy
    · obtain ⟨g1, g3, rfl⟩ := h
      exact B2_w (j := j) _ hc x hx g3 rfl (hN _ _ ⟨g1, g3, rfl⟩)
theorem law_hm (ns : List Int) (hns : ns.length ≤ 63) : U_law lawV (st0 ns) 0 := by
  unfold U_law
  refine w_sfor (rngL 0 3) (by walk_at "pls") ?_
  refine uLoop_rng 0 3 (fun i σ n => σ 1 = some .pen ∧ n ≤ 3000 * i) (st0 ns) 0 ⟨rfl, by omega⟩ (fun σ n h => ⟨_, rfl, rfl⟩) fun i σ n hi ⟨h1, hn⟩ => ⟨_, rfl, fun N hN => ?_⟩
  exact B3_w _ (by walk_at "pls") (by omega) fun σ' q' h1 h2 => hN σ' q' ⟨h1, by omega⟩

section
variable {P : Program} {w : World} {K : PySem.W.Frag} {mg : Str → Option Value} {base : Heap}
abbrev s_is_integer : Stmt := top 1
abbrev n_is_integer : List Str := ["value"]
abbrev p_is_integer : List Str := ["value"]
theorem sc_is_integer : FnScope n_is_integer p_is_integer (defScope s_is_integer) := ⟨rfl, rfl, rfl, by decide +kernel, rfl, by decide +kernel, by decide +kernel⟩
theorem okG_is_integer {f fd} (F : Fun K "is_integer" "is_integer" s_is_integer f fd) (T : Txt K mg) : DFn P w K mg base 1 f fd p_is_integer (spG 1 false (embS F_is_integer)) := by
  refine fun_okG (L := 1) (mu := []) F sc_is_integer rfl (by decide) (by decide) fun cdv A outer s H E hr hgd => ?_
  have hu := room64 hr
  have hu5 := room65 hr
  refine ⟨_, (dss_one (ds_ret (de_and (de_isi (t := .int) rfl T.b_isinstance rfl T.b_int (by decide +kernel) (dv 0)) (de_one (de_not (de_isi (t := .bool) rfl T.b_isinstance rfl T.b_bool (by decide +kernel) (dv 0))))))), ?_⟩
  unfold F_is_integer
  exact (sps_ret (sp_andV (sp_isi1 (sp_varS 0 (by decide))) (sp_notV (sp_isi1 (sp_varS 0 (by decide))))))
abbrev s_is_within : Stmt := top 2
abbrev n_is_within : List Str := ["value", "low", "high"]
abbrev p_is_within : List Str := ["value", "low", "high"]
theorem sc_is_within : FnScope n_is_within p_is_within (defScope s_is_within) := ⟨rfl, rfl, rfl, by decide +kernel, rfl, by decide +kernel, by decide +kernel⟩
theorem okG_is_within {f fd} (F : Fun K "is_within" "is_within" s_is_within f fd) (T : Txt K mg) (c_is_integer : Callee P w K mg base "is_integer" 1 p_is_integer sp_is_integer) : DFn P w K mg base 2 f fd p_is_within (spG 3 false (embS F_is_within)) := by
  refine fun_okG (L := 3) (mu := []) F sc_is_within rfl (by decide) (by decide) fun cdv A outer s H E hr hgd => ?_
  have hu := room64 hr
  have hu5 := room65 hr
  refine ⟨_, (dss_one (ds_ret (de_and (de_call c_is_integer hr hgd (da_cons (dv 0) da_nil)) (de_one (de_chain od_le od_le (dv 1) (dv 0) (dv 2)))))), ?_⟩
  unfold F_is_within
  exact (sps_ret (sp_andV (sp_call cs_is_integer (spa_cons (sp_varS 0 (by decide)) spa_nil)) (sp_chain os_le os_le (sp_varS 1 (by decide)) (sp_varS 0 (by decide)) (sp_varS 2 (by decide)))))
abbrev s_value_passes : Stmt := top 3
abbrev n_value_passes : List Str := ["case", "value", "pair"]
abbrev p_value_passes : List Str := ["case", "value"]
theorem sc_value_passes : FnScope n_value_passes p_value_passes (defScope s_value_passes) := ⟨rfl, rfl, rfl, by decide +kernel, rfl, by decide +kernel, by decide +kernel⟩
theorem okG_value_passes {f fd} (F : Fun K "value_passes" "value_passes" s_value_passes f fd) (T : Txt K mg) : DFn P w K mg base 1 f fd p_value_passes (spG 2 false (embS F_value_passes)) := by
  refine fun_okG (L := 3) (mu := []) F sc_value_passes rfl (by decide) (by decide) fun cdv A outer s H E hr hgd => ?_
  have hu := room64 hr
  have hu5 := room65 hr
  refine ⟨_, (dss_one (ds_ret (de_callB (cd_any rfl) rfl T.b_any (by decide +kernel) (da_cons (de_lc (fin := finF) finF_ok rfl sc_value_passes.nd (di_seq (de_ix (dv 0) de_int)) (blkOk_by (own := [("pair", 2)]) (N := n_value_passes) (sc := defScope s_value_passes) (by decide +kernel)) (gsim_name (i := 2) (by decide)) (fun _ _ _ _ _ => pg_name (i := 2) sc_value_passes.nd rfl (by first | exact Or.inl rfl | exact Or.inr rfl)) (fun _ _ _ _ _ => dts_nil) (fun _ _ _ _ _ => (de_rel (od_eq hu) (de_ix (dv 2) de_int) (dv 1)))) da_nil)))), ?_⟩
  unfold F_value_passes
  exact (sps_ret (sp_cb (cs_allQ _) (spa_cons (sp_lc (by decide) (spj_seq (sp_opV ov_ix (sp_varS 0 (by decide)) (sp_c _))) (sg_name 2 (by decide) (by decide)) (tq_name 2) spt_yes (sp_op os_eq (sp_opV ov_ix (sp_varS 2 (by decide)) (sp_c _)) (sp_varS 1 (by decide)))) spa_nil)))
abbrev s_pair_passes : Stmt := top 4
abbrev n_pair_passes : List Str := ["case", "kind", "value"]
abbrev p_pair_passes : List Str := ["case", "kind", "value"]
theorem sc_pair_passes : FnScope n_pair_passes p_pair_passes (defScope s_pair_passes) := ⟨rfl, rfl, rfl, by decide +kernel, rfl, by decide +kernel, by decide +kernel⟩
theorem okG_pair_passes {f fd} (F : Fun K "pair_passes" "pair_passes" s_pair_passes f fd) (T : Txt K mg) : DFn P w K mg base 1 f fd p_pair_passes (spG 3 false (embS F_pair_passes)) := by
  refine fun_okG (L := 3) (mu := []) F sc_pair_passes rfl (by decide) (by decide) fun cdv A outer s H E hr hgd => ?_
  have hu := room64 hr
  have hu5 := room65 hr
  refine ⟨_, (dss_one (ds_ret (de_rel (od_in hu5) (de_tup (da_cons (dv 1) (da_cons (dv 2) da_nil))) (de_ix (dv 0) de_int)))), ?_⟩
  unfold F_pair_passes
  exact (sps_ret (sp_op (os_in false) (sp_mk (spa_cons (sp_varS 1 (by decide)) (spa_cons (sp_varS 2 (by decide)) spa_nil))) (sp_opV ov_ix (sp_varS 0 (by decide)) (sp_c _))))
abbrev s_is_parent_state : Stmt := top 7
abbrev n_is_parent_state : List Str := ["case", "value"]
abbrev p_is_parent_state : List Str := ["case", "value"]
theorem sc_is_parent_state : FnScope n_is_parent_state p_is_parent_state (defScope s_is_parent_state) := ⟨rfl, rfl, rfl, by decide +kernel, rfl, by decide +kernel, by decide +kernel⟩
theorem okG_is_parent_state {f fd} (F : Fun K "is_parent_state" "is_parent_state" s_is_parent_state f fd) (T : Txt K mg) (c_is_within : Callee P w K mg base "is_within" 2 p_is_within sp_is_within) : DFn P w K mg base 3 f fd p_is_parent_state (spG 2 false (embS F_is_parent_state)) := by
  refine fun_okG (L := 2) (mu := []) F sc_is_parent_state rfl (by decide) (by decide) fun cdv A outer s H E hr hgd => ?_
  have hu := room64 hr
  have hu5 := room65 hr
  refine ⟨_, (dss_one (ds_ret (de_call c_is_within hr hgd (da_cons (dv 1) (da_cons (de_gi rfl T.g_ABSENT) (da_cons (de_bin od_sub (de_ix (dv 0) de_int) de_int) da_nil)))))), ?_⟩
  unfold F_is_parent_state
  exact (sps_ret (sp_call cs_is_within (spa_cons (sp_varS 1 (by decide)) (spa_cons (sp_c _) (spa_cons (sp_op os_sub (sp_opV ov_ix (sp_varS 0 (by decide)) (sp_c _)) (sp_c _)) spa_nil)))))
abbrev s_is_child_state : Stmt := top 8
abbrev n_is_child_state : List Str := ["case", "value"]
abbrev p_is_child_state : List Str := ["case", "value"]
theorem sc_is_child_state : FnScope n_is_child_state p_is_child_state (defScope s_is_child_state) := ⟨rfl, rfl, rfl, by decide +kernel, rfl, by decide +kernel, by decide +kernel⟩
theorem okG_is_child_state {f fd} (F : Fun K "is_child_state" "is_child_state" s_is_child_state f fd) (T : Txt K mg) (c_is_within : Callee P w K mg base "is_within" 2 p_is_within sp_is_within) : DFn P w K mg base 3 f fd p_is_child_state (spG 2 false (embS F_is_child_state)) := by
  refine fun_okG (L := 2) (mu := []) F sc_is_child_state rfl (by decide) (by decide) fun cdv A outer s H E hr hgd => ?_
  have hu := room64 hr
  have hu5 := room65 hr
  refine ⟨_, (dss_cons (ds_if (dt_rel (od_eq0 hu) (dv 1) (de_tup da_nil)) (dss_one (ds_ret (de_isi (t := .tuple) rfl T.b_isinstance rfl T.b_tuple (by decide +kernel) (dv 1)))) dss_nil)
      (dss_cons (ds_if (dt_w (dw_or (dt_not (dt_val (de_isi (t := .tuple) rfl T.b_isinstance rfl T.b_tuple (by decide +kernel) (dv 1)))) (dw_or1 (dt_rel (od_ne hu) (de_callB cd_len rfl T.b_len (by decide +kernel) (da_cons (dv 1) da_nil)) de_int)))) (dss_one (ds_ret de_bl)) dss_nil)
      (dss_one (ds_ret (de_and (de_call c_is_within hr hgd (da_cons (de_ix (dv 1) de_int) (da_cons de_int (da_cons (de_bin od_sub (de_ix (dv 0) de_int) de_int) da_nil)))) (de_one (de_call c_is_within hr hgd (da_cons (de_ix (dv 1) de_int) (da_cons de_int (da_cons (de_bin od_sub (de_ix (dv 0) de_int) de_int) da_nil)))))))))), ?_⟩
  unfold F_is_child_state
  exact (sps_seq (sps_if (spt_b (sp_op os_eq0 (sp_varS 1 (by decide)) (sp_mk spa_nil))) (sps_ret (sp_isi1 (sp_varS 1 (by decide)))) sps_next)
  (sps_seq (sps_if (spt_or (spt_not (spt_b (sp_isi1 (sp_varS 1 (by decide))))) (spt_b (sp_op os_ne (sp_cbV cv_len (spa_cons (sp_varS 1 (by decide)) spa_nil)) (sp_c _)))) (sps_ret (sp_c _)) sps_next)
  (sps_ret (sp_andV (sp_call cs_is_within (spa_cons (sp_opV ov_ix (sp_varS 1 (by decide)) (sp_c _)) (spa_cons (sp_c _) (spa_cons (sp_op os_sub (sp_opV ov_ix (sp_varS 0 (by decide)) (sp_c _)) (sp_c _)) spa_nil)))) (sp_call cs_is_within (spa_cons (sp_opV ov_ix (sp_varS 1 (by decide)) (sp_c _)) (spa_cons (sp_c _) (spa_cons (sp_op os_sub (sp_opV ov_ix (sp_varS 0 (by decide)) (sp_c _)) (sp_c _)) spa_nil))))))))
abbrev s_are_states : Stmt := top 9
abbrev n_are_states : List Str := ["case", "value", "state"]
abbrev p_are_states : List Str := ["case", "value"]
theorem sc_are_states : FnScope n_are_states p_are_states (defScope s_are_states) := ⟨rfl, rfl, rfl, by decide +kernel, rfl, by decide +kernel, by decide +kernel⟩
theorem okG_are_states {f fd} (F : Fun K "are_states" "are_states" s_are_states f fd) (T : Txt K mg) (c_is_child_state : Callee P w K mg base "is_child_state" 3 p_is_child_state sp_is_child_state) (c_is_parent_state : Callee P w K mg base "is_parent_state" 3 p_is_parent_state sp_is_parent_state) : DFn P w K mg base 4 f fd p_are_states (spG 2 false (embS F_are_states)) := by
  refine fun_okG (L := 3) (mu := []) F sc_are_states rfl (by decide) (by decide) fun cdv A outer s H E hr hgd => ?_
  have hu := room64 hr
  have hu5 := room65 hr
  refine ⟨_, (dss_cons (ds_if (dt_w (dw_or (dt_not (dt_val (de_isi (t := .tuple) rfl T.b_isinstance rfl T.b_tuple (by decide +kernel) (dv 1)))) (dw_or (dt_rel (od_ne hu) (de_callB cd_len rfl T.b_len (by decide +kernel) (da_cons (dv 1) da_nil)) de_int) (dw_or1 (dt_not (dt_val (de_isi (t := .tuple) rfl T.b_isinstance rfl T.b_tuple (by decide +kernel) (de_ix (dv 1) de_int)))))))) (dss_one (ds_ret de_bl)) dss_nil)
      (dss_cons (ds_if (dt_w (dw_or (dt_rel (od_ne hu) (de_callB cd_len rfl T.b_len (by decide +kernel) (da_cons (de_ix (dv 1) de_int) da_nil)) (de_ix (dv 0) de_int)) (dw_or1 (dt_not (dt_val (de_callB (cd_all rfl) rfl T.b_all (by decide +kernel) (da_cons (de_lc (fin := finF) finF_ok rfl sc_are_states.nd (di_seq (de_ix (dv 1) de_int)) (blkOk_by (own := [("state", 2)]) (N := n_are_states) (sc := defScope s_are_states) (by decide +kernel)) (gsim_name (i := 2) (by decide)) (fun _ _ _ _ _ => pg_name (i := 2) sc_are_states.nd rfl (by first | exact Or.inl rfl | exact Or.inr rfl)) (fun _ _ _ _ _ => dts_nil) (fun _ _ _ _ _ => (de_call c_is_parent_state hr hgd (da_cons (dv 0) (da_cons (dv 2) da_nil))))) da_nil))))))) (dss_one (ds_ret de_bl)) dss_nil)
      (dss_one (ds_ret (de_call c_is_child_state hr hgd (da_cons (dv 0) (da_cons (de_ix (dv 1) de_int) da_nil))))))), ?_⟩
  unfold F_are_states
  exact (sps_seq (sps_if (spt_or (spt_not (spt_b (sp_isi1 (sp_varS 1 (by decide))))) (spt_or (spt_b (sp_op os_ne (sp_cbV cv_len (spa_cons (sp_varS 1 (by decide)) spa_nil)) (sp_c _))) (spt_not (spt_b (sp_isi1 (sp_opV ov_ix (sp_varS 1 (by decide)) (sp_c _))))))) (sps_ret (sp_c _)) sps_next)
  (sps_seq (sps_if (spt_or (spt_b (sp_op os_ne (sp_cbV cv_len (spa_cons (sp_opV ov_ix (sp_varS 1 (by decide)) (sp_c _)) spa_nil)) (sp_opV ov_ix (sp_varS 0 (by decide)) (sp_c _)))) (spt_not (spt_b (sp_cb (cs_allQ _) (spa_cons (sp_lc (by decide) (spj_seq (sp_opV ov_ix (sp_varS 1 (by decide)) (sp_c _))) (sg_name 2 (by decide) (by decide)) (tq_name 2) spt_yes (sp_call cs_is_parent_state (spa_cons (sp_varS 0 (by decide)) (spa_cons (sp_varS 2 (by decide)) spa_nil)))) spa_nil))))) (sps_ret (sp_c _)) sps_next)
  (sps_ret (sp_call cs_is_child_state (spa_cons (sp_varS 0 (by decide)) (spa_cons (sp_opV ov_ix (sp_varS 1 (by decide)) (sp_c _)) spa_nil))))))
abbrev s_is_source : Stmt := top 10
abbrev n_is_source : List Str := ["case", "value", "parents", "child"]
abbrev p_is_source : List Str := ["case", "value"]
theorem sc_is_source : FnScope n_is_source p_is_source (defScope s_is_source) := ⟨rfl, rfl, rfl, by decide +kernel, rfl, by decide +kernel, by decide +kernel⟩
theorem okG_is_source {f fd} (F : Fun K "is_source" "is_source" s_is_source f fd) (T : Txt K mg) (c_are_states : Callee P w K mg base "are_states" 4 p_are_states sp_are_states) : DFn P w K mg base 5 f fd p_is_source (spG 2 false (embS F_is_source)) := by
  refine fun_okG (L := 4) (mu := []) F sc_is_source rfl (by decide) (by decide) fun cdv A outer s H E hr hgd => ?_
  have hu := room64 hr
  have hu5 := room65 hr
  refine ⟨_, (dss_cons (ds_if (dt_not (dt_val (de_call c_are_states hr hgd (da_cons (dv 0) (da_cons (dv 1) da_nil))))) (dss_one (ds_ret de_bl)) dss_nil)
      (dss_cons (ds_asg (dv 1) (dg_tup (n := 2) rfl (dgs_cons (dg_name (i := 2) (vs := [2, 3]) sc_is_source.nd rfl (by first | exact Or.inl rfl | exact Or.inr rfl) (by decide)) (dgs_cons (dg_name (i := 3) (vs := [2, 3]) sc_is_source.nd rfl (by first | exact Or.inl rfl | exact Or.inr rfl) (by decide)) dgs_nil))))
      (dss_one (ds_ret (de_or (de_rel (od_eq hu) (dv 3) (de_tup da_nil)) (de_one (de_rel (od_ne hu) (de_ix (dv 2) (de_ix (dv 3) de_int)) (de_gi rfl T.g_ABSENT)))))))), ?_⟩
  unfold F_is_source
  exact (sps_seq (sps_if (spt_not (spt_b (sp_call cs_are_states (spa_cons (sp_varS 0 (by decide)) (spa_cons (sp_varS 1 (by decide)) spa_nil))))) (sps_ret (sp_c _)) sps_next)
  (sps_seq (sps_asg (vs := [2, 3]) (sg_tup (sg_cons (sg_name 2 (by decide) (by decide)) (sg_cons (sg_name 3 (by decide) (by decide)) sg_nil))) (tq_tup (tq_cons (tq_name 2) (tq_cons (tq_name 3) tq_nil))) (sp_varS 1 (by decide)))
  (sps_ret (sp_orV (sp_op os_eq (sp_varS 3 (by decide)) (sp_mk spa_nil)) (sp_op os_ne (sp_opV ov_ix (sp_varS 2 (by decide)) (sp_opV ov_ix (sp_varS 3 (by decide)) (sp_c _))) (sp_c _))))))
abbrev s_state_passes : Stmt := top 11
abbrev n_state_passes : List Str := ["case", "parents", "child"]
abbrev p_state_passes : List Str := ["case", "parents", "child"]
theorem sc_state_passes : FnScope n_state_passes p_state_passes (defScope s_state_passes) := ⟨rfl, rfl, rfl, by decide +kernel, rfl, by decide +kernel, by decide +kernel⟩
theorem okG_state_passes {f fd} (F : Fun K "state_passes" "state_passes" s_state_passes f fd) (T : Txt K mg) (c_pair_passes : Callee P w K mg base "pair_passes" 1 p_pair_passes sp_pair_passes) : DFn P w K mg base 2 f fd p_state_passes (spG 3 false (embS F_state_passes)) := by
  refine fun_okG (L := 3) (mu := []) F sc_state_passes rfl (by decide) (by decide) fun cdv A outer s H E hr hgd => ?_
  have hu := room64 hr
  have hu5 := room65 hr
  refine ⟨_, (dss_one (ds_ret (de_and (de_rel (od_ne hu) (dv 2) (de_tup da_nil)) (de_one (de_call c_pair_passes hr hgd (da_cons (dv 0) (da_cons (de_ix (dv 2) de_int) (da_cons (de_ix (dv 1) (de_ix (dv 2) de_int)) da_nil)))))))), ?_⟩
  unfold F_state_passes
  exact (sps_ret (sp_andV (sp_op os_ne (sp_varS 2 (by decide)) (sp_mk spa_nil)) (sp_call cs_pair_passes (spa_cons (sp_varS 0 (by decide)) (spa_cons (sp_opV ov_ix (sp_varS 2 (by decide)) (sp_c _)) (spa_cons (sp_opV ov_ix (sp_varS 1 (by decide)) (sp_opV ov_ix (sp_varS 2 (by decide)) (sp_c _))) spa_nil))))))
abbrev s_child_passes : Stmt := top 12
abbrev n_child_passes : List Str := ["case", "source"]
abbrev p_child_passes : List Str := ["case", "source"]
theorem sc_child_passes : FnScope n_child_passes p_child_passes (defScope s_child_passes) := ⟨rfl, rfl, rfl, by decide +kernel, rfl, by decide +kernel, by decide +kernel⟩
theorem okG_child_passes {f fd} (F : Fun K "child_passes" "child_passes" s_child_passes f fd) (T : Txt K mg) (c_state_passes : Callee P w K mg base "state_passes" 2 p_state_passes sp_state_passes) : DFn P w K mg base 3 f fd p_child_passes (spG 2 false (embS F_child_passes)) := by
  refine fun_okG (L := 2) (mu := []) F sc_child_passes rfl (by decide) (by decide) fun cdv A outer s H E hr hgd => ?_
  have hu := room64 hr
  have hu5 := room65 hr
  refine ⟨_, (dss_one (ds_ret (de_call c_state_passes hr hgd (da_cons (dv 0) (da_cons (de_ix (dv 1) de_int) (da_cons (de_ix (dv 1) de_int) da_nil)))))), ?_⟩
  unfold F_child_passes
  exact (sps_ret (sp_call cs_state_passes (spa_cons (sp_varS 0 (by decide)) (spa_cons (sp_opV ov_ix (sp_varS 1 (by decide)) (sp_c _)) (spa_cons (sp_opV ov_ix (sp_varS 1 (by decide)) (sp_c _)) spa_nil)))))
abbrev s_wished : Stmt := top 13
abbrev n_wished : List Str := ["case", "source", "parents", "state"]
abbrev p_wished : List Str := ["case", "source"]
theorem sc_wished : FnScope n_wished p_wished (defScope s_wished) := ⟨rfl, rfl, rfl, by decide +kernel, rfl, by decide +kernel, by decide +kernel⟩
theorem okG_wished {f fd} (F : Fun K "wished" "wished" s_wished f fd) (T : Txt K mg) (c_child_passes : Callee P w K mg base "child_passes" 3 p_child_passes sp_child_passes) (c_value_passes : Callee P w K mg base "value_passes" 1 p_value_passes sp_value_passes) : DFn P w K mg base 4 f fd p_wished (spG 2 false (embS F_wished)) := by
  refine fun_okG (L := 4) (mu := []) F sc_wished rfl (by decide) (by decide) fun cdv A outer s H E hr hgd => ?_
  have hu := room64 hr
  have hu5 := room65 hr
  refine ⟨_, (dss_cons (ds_set (i := 2) sc_wished.nd rfl (by first | exact Or.inl rfl | exact Or.inr rfl) (de_callTy cd_tuple rfl T.b_tuple (by decide +kernel) (da_cons (de_lc (fin := finF) finF_ok rfl sc_wished.nd (di_seq (de_ix (dv 1) de_int)) (blkOk_by (own := [("state", 3)]) (N := n_wished) (sc := defScope s_wished) (by decide +kernel)) (gsim_name (i := 3) (by decide)) (fun _ _ _ _ _ => pg_name (i := 3) sc_wished.nd rfl (by first | exact Or.inl rfl | exact Or.inr rfl)) (fun _ _ _ _ _ => dts_nil) (fun _ _ _ _ _ => (de_ifExp (dt_val (de_call c_value_passes hr hgd (da_cons (dv 0) (da_cons (dv 3) da_nil)))) (dv 3) (de_gi rfl T.g_ABSENT)))) da_nil)))
      (dss_one (ds_ret (de_tup (da_cons (dv 2) (da_cons (de_ifExp (dt_val (de_call c_child_passes hr hgd (da_cons (dv 0) (da_cons (dv 1) da_nil)))) (de_ix (dv 1) de_int) (de_tup da_nil)) da_nil)))))), ?_⟩
  unfold F_wished
  exact (sps_seq (sps_set 2 (by decide) (by decide) (sp_cbV cv_tuple (spa_cons (sp_lc (by decide) (spj_seq (sp_opV ov_ix (sp_varS 1 (by decide)) (sp_c _))) (sg_name 3 (by decide) (by decide)) (tq_name 3) spt_yes (sp_if (spt_b (sp_call cs_value_passes (spa_cons (sp_varS 0 (by decide)) (spa_cons (sp_varS 3 (by decide)) spa_nil)))) (sp_varS 3 (by decide)) (sp_c _))) spa_nil)))
  (sps_ret (sp_mk (spa_cons (sp_varS 2 (by decide)) (spa_cons (sp_if (spt_b (sp_call cs_child_passes (spa_cons (sp_varS 0 (by decide)) (spa_cons (sp_varS 1 (by decide)) spa_nil)))) (sp_opV ov_ix (sp_varS 1 (by decide)) (sp_c _)) (sp_mk spa_nil)) spa_nil)))))
abbrev s__law_open : Stmt := top 15
abbrev n__law_open : List Str := ["script", "cells", "k", "cell"]
abbrev p__law_open : List Str := ["script"]
theorem sc__law_open : FnScope n__law_open p__law_open (defScope s__law_open) := ⟨rfl, rfl, rfl, by decide +kernel, rfl, by decide +kernel, by decide +kernel⟩
theorem ok__law_open {f fd} (F : Fun K "_law_open" "_law_open" s__law_open f fd) (T : Txt K mg) : DFn P w K mg base 1 f fd p__law_open spq__law_open := by
  refine fun_okD F sc__law_open (fun ds M Q h => ?_) fun cdv A outer s H E hr hgd ds M Q h => ?_
  · obtain ⟨ns, rfl, _⟩ := h; rfl
  · obtain ⟨ns, rfl, k⟩ := h
    have hu := room64 hr
    have hu5 := room65 hr
    refine ⟨_, (dss_cons (ds_set (i := 1) sc__law_open.nd rfl (by first | exact Or.inl rfl | exact Or.inr rfl) (de_callTy cd_listM rfl T.b_list (by decide +kernel) (da_cons (de_slice (dv 0) do_none (do_some de_int)) da_nil)))
      (dss_cons (ds_for PassesOwn.never rfl (di_enum rfl T.b_enumerate (da_cons (de_slice (dv 0) (do_some de_int) (do_some de_int)) da_nil)) (dg_tup (n := 2) rfl (dgs_cons (dg_name (i := 2) (vs := [2, 3]) sc__law_open.nd rfl (by first | exact Or.inl rfl | exact Or.inr rfl) (by decide)) (dgs_cons (dg_name (i := 3) (vs := [2, 3]) sc__law_open.nd rfl (by first | exact Or.inl rfl | exact Or.inr rfl) (by decide)) dgs_nil))) (dss_one (ds_setIx (de_bin od_add (de_ix (dv 1) (de_bin od_mod (de_callTy cd_intB rfl T.b_int (by decide +kernel) (da_cons (dv 2) da_nil)) de_int)) (dv 3)) (dv 1) (de_bin od_mod (de_callTy cd_intB rfl T.b_int (by decide +kernel) (da_cons (dv 2) da_nil)) de_int))))
      (dss_one (ds_ret (de_lstM (da_cons (dv 1) (da_cons de_int (da_cons de_int da_nil)))))))), ?_⟩
    walk_at "dl"
    intro c hc
    refine loopD_ind (fun l δ M' => ∃ (n : Nat) (vs : List Int) (k v : Option DV) (cs : List Int), l = enumD n (vs.map .int) ∧ δ = [some (.s ns), some (.r c), k, v] ∧ M' = mupd M c (.lst (cs.map fun i => .d (.int i))) ∧ (vs ≠ [] → cs.length = 12)) (fun _ _ _ _ => trivial) ?_ ?_ _ _ _
      ⟨0, (ns.drop 12).take (63 - 12), none, none, ns.take 12, by rw [List.map_take, List.map_drop], rfl, by rw [List.map_map]; rfl, fun hv => ?_⟩
    · rintro δ M' ⟨n, vs, kk, v, cs, _, rfl, rfl, _⟩
      walk_at "dl"
      refine ⟨list_len (by decide), fun p hp => k c p cs ?_ hc (mupd_none hc p hp)⟩
      rintro rfl
      rw [mupd_same] at hp
      cases hp
    · rintro x l δ M' ⟨n, vs, kk, v, cs, hl, rfl, rfl, h12⟩ N hN
      cases vs with
      | nil => cases hl
      | cons y ys =>
        simp only [List.map_cons, enumD] at hl
        obtain ⟨rfl, rfl⟩ := List.cons.inj hl
        have hlen := h12 (by simp)
        have h0 : (0 : Int) ≤ (n : Int) % 12 := Int.emod_nonneg _ (by decide)
        have h1 : (n : Int) % 12 < 12 := Int.emod_lt_of_pos _ (by decide)
        obtain ⟨z, hz, _⟩ := atI_some (xs := cs) h0 (by omega)
        have hz' : L2.atI (cs.map fun i => DV.d (.int i)) ((n : Int) % 12) = some (.d (.int z)) := by rw [atI_map, hz]; rfl
        have hj : ixN (cs.map fun i => DV.d (.int i)).length ((n : Int) % 12) = some ((n : Int) % 12).toNat := ixN_nn h0 (by rw [List.length_map]; omega)
        walk_at "dl"
        refine ⟨by decide, ?_⟩
        rw [hz']
        walk_at "dl"
        refine ⟨by decide, ?_⟩
        rw [hj]
        walk_at "dl"
        refine hN _ _ ⟨n + 1, ys, _, _, cs.set ((n : Int) % 12).toNat (z + y), rfl, rfl, ?_, fun _ => by rw [List.length_set]; exact hlen⟩
        rw [List.map_set]
    · have : 12 < ns.length := by
        rcases Nat.lt_or_ge 12 ns.length with h | h
        · exact h
        · rw [List.drop_of_length_le h] at hv; exact absurd (by simp) hv
      rw [List.length_take]
      omega
theorem ok__law_open' {f fd} (F : DFn P w K mg base 1 f fd p__law_open spq__law_open) : DFn P w K mg base 1 f fd p__law_open sp__law_open :=
  F.imp (liftF_pen fun ds M Q ⟨ns, e, hl, k⟩ => ⟨ns, e, fun c p cs hcp hc hp => ⟨c, p, cs, M, rfl, hcp, hc, hp, rfl, k p _ hp ⟨cs, 0, 0, rfl, by decide, by decide⟩⟩⟩)
abbrev s__law_spread : Stmt := top 16
abbrev n__law_spread : List Str := ["cell", "at", "primes", "one", "two", "three"]
abbrev p__law_spread : List Str := ["cell", "at"]
theorem sc__law_spread : FnScope n__law_spread p__law_spread (defScope s__law_spread) := ⟨rfl, rfl, rfl, by decide +kernel, rfl, by decide +kernel, by decide +kernel⟩
theorem ok__law_spread {f fd} (F : Fun K "_law_spread" "_law_spread" s__law_spread f fd) (T : Txt K mg) : DFn P w K mg base 1 f fd p__law_spread sp__law_spread := by
  refine fun_okD F sc__law_spread (fun ds M Q h => ?_) fun cdv A outer s H E hr hgd ds M Q h => ?_
  · obtain ⟨c, a, rfl, h0, h1, _⟩ := h; rfl
  · obtain ⟨c, a, rfl, h0, h1, k⟩ := h
    have hu := room64 hr
    have hu5 := room65 hr
    refine ⟨_, (dss_cons (ds_if (dt_rel od_ge (dv 0) (de_bin od_pow de_int de_int)) (dss_one (ds_ret (dv 0))) dss_nil)
      (dss_cons (ds_set (i := 2) sc__law_spread.nd rfl (by first | exact Or.inl rfl | exact Or.inr rfl) (de_lst (da_cons de_int (da_cons de_int (da_cons de_int (da_cons de_int (da_cons de_int (da_cons de_int (da_cons de_int (da_cons de_int da_nil))))))))))
      (dss_cons (ds_set (i := 2) sc__law_spread.nd rfl (by first | exact Or.inl rfl | exact Or.inr rfl) (de_bin od_add (dv 2) (de_lst (da_cons de_int (da_cons de_int (da_cons de_int (da_cons de_int (da_cons de_int da_nil))))))))
      (dss_cons (ds_set (i := 3) sc__law_spread.nd rfl (by first | exact Or.inl rfl | exact Or.inr rfl) (de_bin od_add (de_bin od_add (de_bin od_mul (de_bin od_mod (de_callTy cd_intB rfl T.b_int (by decide +kernel) (da_cons (dv 0) da_nil)) de_int) (de_bin od_add (de_bin od_mul de_int (dv 1)) de_int)) (de_bin od_mul (dv 1) de_int)) de_int))
      (dss_cons (ds_set (i := 3) sc__law_spread.nd rfl (by first | exact Or.inl rfl | exact Or.inr rfl) (de_bin od_mod (de_callTy cd_intB rfl T.b_int (by decide +kernel) (da_cons (de_bin od_pow (dv 3) de_int) da_nil)) (de_ix (dv 2) (de_bin od_mod (de_callTy cd_intB rfl T.b_int (by decide +kernel) (da_cons (dv 1) da_nil)) de_int))))
      (dss_cons (ds_set (i := 4) sc__law_spread.nd rfl (by first | exact Or.inl rfl | exact Or.inr rfl) (de_bin od_mod (de_callTy cd_intB rfl T.b_int (by decide +kernel) (da_cons (de_bin od_pow (de_bin od_add (de_bin od_add (de_bin od_mul (dv 3) (de_bin od_add (dv 1) de_int)) (de_bin od_mod (de_callTy cd_intB rfl T.b_int (by decide +kernel) (da_cons (dv 0) da_nil)) de_int)) de_int) de_int) da_nil)) (de_ix (dv 2) (de_bin od_mod (de_callTy cd_intB rfl T.b_int (by decide +kernel) (da_cons (de_bin od_add (dv 1) de_int) da_nil)) de_int))))
      (dss_cons (ds_set (i := 5) sc__law_spread.nd rfl (by first | exact Or.inl rfl | exact Or.inr rfl) (de_bin od_mod (de_callTy cd_intB rfl T.b_int (by decide +kernel) (da_cons (de_bin od_pow (de_bin od_add (de_bin od_add (dv 4) (de_bin od_mod (de_callTy cd_intB rfl T.b_int (by decide +kernel) (da_cons (dv 3) da_nil)) de_int)) (dv 1)) de_int) da_nil)) (de_ix (dv 2) (de_bin od_mod (de_callTy cd_intB rfl T.b_int (by decide +kernel) (da_cons (de_bin od_add (dv 1) de_int) da_nil)) de_int))))
      (dss_one (ds_ret (de_bin od_add (de_bin od_mul (de_bin od_add (de_bin od_mul (dv 3) de_int) (dv 4)) de_int) (dv 5))))))))))), ?_⟩
    walk_at "dl"
    rw [show [PyData.int 2147483629, PyData.int 2147483587, PyData.int 2147483579, PyData.int 2147483563, PyData.int 2147483549, PyData.int 2147483543, PyData.int 2147483497, PyData.int 2147483489, PyData.int 2147483477, PyData.int 2147483423, PyData.int 2147483399, PyData.int 2147483353, PyData.int 2147483323] = primesL from rfl]
    have m13 : ∀ x : Int, 0 ≤ x % 13 ∧ x % 13 < 13 := fun x => ⟨Int.emod_nonneg _ (by decide), Int.emod_lt_of_pos _ (by decide)⟩
    obtain ⟨p1, e1, p1a, p1b⟩ := primes_ok (m13 a).1 (m13 a).2
    obtain ⟨p2, e2, p2a, p2b⟩ := primes_ok (m13 (a + 5)).1 (m13 (a + 5)).2
    obtain ⟨p3, e3, p3a, p3b⟩ := primes_ok (m13 (a + 7)).1 (m13 (a + 7)).2
    have c1 : 0 ≤ c % 1000000007 ∧ c % 1000000007 < 1000000007 := ⟨Int.emod_nonneg _ (by decide), Int.emod_lt_of_pos _ (by decide)⟩
    have c2 : 0 ≤ c % 65537 ∧ c % 65537 < 65537 := ⟨Int.emod_nonneg _ (by decide), Int.emod_lt_of_pos _ (by decide)⟩
    have small : ∀ x y : Int, 0 ≤ x → x < 4294967296 → 0 ≤ y → y < 4294967296 → 0 ≤ x * y ∧ x * y ≤ 18446744065119617025 := fun x y a1 a2 b1 b2 => ⟨Int.mul_nonneg a1 b1, Int.le_trans (Int.mul_le_mul (Int.le_of_lt_add_one (show x < 4294967295 + 1 by omega)) (Int.le_of_lt_add_one (show y < 4294967295 + 1 by omega)) b1 (by decide)) (by decide)⟩
    rw [e1, e2, e3]
    walk_at "dl"
    have w1 : ∀ x y : Int, 0 ≤ x → x < 1000000007 → 0 ≤ y → y ≤ 4000000 → 0 ≤ x * y ∧ x * y ≤ 4000000028000000 := fun x y a1 a2 b1 b2 => ⟨Int.mul_nonneg a1 b1, Int.le_trans (Int.mul_le_mul (Int.le_of_lt a2) b2 b1 (by decide)) (by decide)⟩
    have w2 : ∀ x y : Int, 0 ≤ x → x < 2147483648 → 0 ≤ y → y ≤ 4000000 → 0 ≤ x * y ∧ x * y ≤ 8589934592000000 := fun x y a1 a2 b1 b2 => ⟨Int.mul_nonneg a1 b1, Int.le_trans (Int.mul_le_mul (Int.le_of_lt a2) b2 b1 (by decide)) (by decide)⟩
    have q1 := w1 (c % 1000000007) (2 * a + 69069) c1.1 c1.2 (by omega) (by omega)
    generalize hA : c % 1000000007 * (2 * a + 69069) = A1 at q1 ⊢
    have r1 : ∀ x : Int, 0 ≤ x % p1 ∧ x % p1 < p1 := fun x => ⟨Int.emod_nonneg _ (by omega), Int.emod_lt_of_pos _ p1a⟩
    have r2 : ∀ x : Int, 0 ≤ x % p2 ∧ x % p2 < p2 := fun x => ⟨Int.emod_nonneg _ (by omega), Int.emod_lt_of_pos _ p2a⟩
    have z1 := r1 ((A1 + a * 40503 + 977) ^ Int.toNat 3)
    generalize hO : (A1 + a * 40503 + 977) ^ Int.toNat 3 % p1 = one at z1 ⊢
    have q2 := w2 one (a + 3) z1.1 (by omega) (by omega) (by omega)
    generalize hB : one * (a + 3) = B1 at q2 ⊢
    have z2 := r2 ((B1 + c % 65537 + 5) ^ Int.toNat 5)
    generalize hT : (B1 + c % 65537 + 5) ^ Int.toNat 5 % p2 = two at z2 ⊢
    have c3 : 0 ≤ one % 1009 ∧ one % 1009 < 1009 := ⟨Int.emod_nonneg _ (by decide), Int.emod_lt_of_pos _ (by decide)⟩
    refine ⟨⟨by decide, by decide, by decide⟩, ?_⟩
    split
    · exact k c
    · refine ⟨list_len (by decide), list_len (by decide), list_len (by decide), by decide, .inl ⟨by decide, by decide⟩, .inl ⟨by omega, by omega⟩, .inr ⟨by decide, by decide⟩, ⟨by decide, by decide, by omega⟩, by decide, p1a, .inl ⟨by omega, by omega⟩, by decide, ⟨by decide, by decide, by omega⟩, by decide, p2a, by decide, ⟨by decide, by decide, by omega⟩, by decide, p3a, .inr ⟨by decide, by decide⟩, .inr ⟨by decide, by decide⟩, k _⟩
abbrev s__law_take : Stmt := top 17
abbrev n__law_take : List Str := ["pen", "amount", "found", "at", "cell"]
abbrev p__law_take : List Str := ["pen", "amount"]
theorem sc__law_take : FnScope n__law_take p__law_take (defScope s__law_take) := ⟨rfl, rfl, rfl, by decide +kernel, rfl, by decide +kernel, by decide +kernel⟩
theorem ok__law_take {f fd} (F : Fun K "_law_take" "_law_take" s__law_take f fd) (T : Txt K mg) (c__law_spread : Callee P w K mg base "_law_spread" 1 p__law_spread sp__law_spread) : DFn P w K mg base 2 f fd p__law_take sp__law_take := by
  refine fun_okD F sc__law_take (fun ds M Q h => ?_) fun cdv A outer s H E hr hgd ds M Q h => ?_
  · obtain ⟨a, m, n, mo, rfl, hM, ⟨ns, at', cur, rfl, h0, h1⟩, hn, hm1, hm2, _⟩ := h; rfl
  · obtain ⟨a, m, n, mo, rfl, hM, ⟨ns, at', cur, rfl, h0, h1⟩, hn, hm1, hm2, k⟩ := h
    have hu := room64 hr
    have hu5 := room65 hr
    refine ⟨_, (dss_cons (ds_if (dt_rel od_lt (de_ix (dv 0) de_int) (dv 1)) (dss_cons (ds_set (i := 3) sc__law_take.nd rfl (by first | exact Or.inl rfl | exact Or.inr rfl) (de_ix (dv 0) de_int))
      (dss_cons (ds_set (i := 4) sc__law_take.nd rfl (by first | exact Or.inl rfl | exact Or.inr rfl) de_int)
      (dss_cons (ds_if (dt_rel od_lt (dv 3) (de_callB cd_len rfl T.b_len (by decide +kernel) (da_cons (de_ix (dv 0) de_int) da_nil))) (dss_one (ds_set (i := 4) sc__law_take.nd rfl (by first | exact Or.inl rfl | exact Or.inr rfl) (de_ix (de_ix (dv 0) de_int) (dv 3)))) (dss_one (ds_if (dt_rel od_gt (de_callB cd_len rfl T.b_len (by decide +kernel) (da_cons (de_ix (dv 0) de_int) da_nil)) de_int) (dss_one (ds_set (i := 4) sc__law_take.nd rfl (by first | exact Or.inl rfl | exact Or.inr rfl) (de_bin od_mod (de_callTy cd_intB rfl T.b_int (by decide +kernel) (da_cons (de_ix (de_ix (dv 0) de_int) (de_bin od_mod (de_callTy cd_intB rfl T.b_int (by decide +kernel) (da_cons (de_bin od_add (de_bin od_mul (dv 3) de_int) de_int) da_nil)) (de_callB cd_len rfl T.b_len (by decide +kernel) (da_cons (de_ix (dv 0) de_int) da_nil)))) da_nil)) (de_bin od_add (de_bin od_pow de_int de_int) (dv 3))))) dss_nil)))
      (dss_cons (ds_setIx (de_bin od_add (dv 3) de_int) (dv 0) de_int)
      (dss_one (ds_setIx (de_call c__law_spread hr hgd (da_cons (dv 4) (da_cons (dv 3) da_nil))) (dv 0) de_int)))))) dss_nil)
      (dss_cons (ds_set (i := 2) sc__law_take.nd rfl (by first | exact Or.inl rfl | exact Or.inr rfl) (de_bin od_mod (de_callTy cd_intB rfl T.b_int (by decide +kernel) (da_cons (de_ix (dv 0) de_int) da_nil)) (dv 1)))
      (dss_cons (ds_setIx (de_bin od_fdiv (de_ix (dv 0) de_int) (dv 1)) (dv 0) de_int)
      (dss_one (ds_ret (dv 2)))))), ?_⟩
    have fin : ∀ (b cur : Int), 0 ≤ b → b ≤ (n : Int) + 1 → 0 < m ∧ CDiv cur m ∧ Q (.d (.int (cur % m))) (mupd M a (.lst [.d (.list (ns.map .int)), .d (.int b), .d (.int (cur / m))])) := fun b cur b0 b1 =>
      ⟨by omega, ⟨by omega, hm2⟩, k _ _ (Int.emod_nonneg _ (by omega)) (Int.emod_lt_of_pos _ (by omega)) ⟨ns, b, cur / m, rfl, b0, by omega⟩⟩
    simp only [wSeq, wIfS, wB, wOp, wV, wC, ixD_e4, optD_e1, moL, startD, iOp0_e1, List.map, List.length_cons, List.length_nil, List.replicate, List.nil_append, List.cons_append, List.getElem?_cons_zero, List.getElem?_cons_succ, Nat.reduceSub, Nat.reduceAdd, hM, atI_lit]
    by_cases hc : cur < m
    · rw [if_pos (by simpa using hc)]
      iterate 3 (walk_at "dl"; try simp only [hM, List.length_map])
      by_cases hb : at' < (ns.length : Int)
      · obtain ⟨c, hc', _⟩ := atI_some (xs := ns) h0 hb
        have hc2 : L2.atI (ns.map PyData.int) at' = some (.int c) := by rw [atI_map, hc']; rfl
        rw [if_pos (by simpa using hb)]
        iterate 5 (walk_at "dl"; try simp only [hM, hc2])
        refine ⟨c, at', rfl, h0, by omega, fun r => ?_⟩
        walk_at "dl"
        exact fin (at' + 1) r (by omega) (by omega)
      · rw [if_neg (by simpa using hb)]
        by_cases hz : ns.length = 0
        · rw [if_neg (by simp [hz])]
          refine ⟨0, at', rfl, h0, by omega, fun r => ?_⟩
          walk_at "dl"
          exact fin (at' + 1) r (by omega) (by omega)
        · rw [if_pos (by simp; omega)]
          iterate 4 (walk_at "dl"; try simp only [hM, List.length_map])
          have g0 : 0 ≤ (at' * 5 + 3) % (ns.length : Int) := Int.emod_nonneg _ (by omega)
          have g1 : (at' * 5 + 3) % (ns.length : Int) < (ns.length : Int) := Int.emod_lt_of_pos _ (by omega)
          obtain ⟨c, hc', _⟩ := atI_some (xs := ns) g0 g1
          have hc2 : L2.atI (ns.map PyData.int) ((at' * 5 + 3) % (ns.length : Int)) = some (.int c) := by rw [atI_map, hc']; rfl
          refine ⟨.inr ⟨by decide, by decide⟩, by omega, ?_⟩
          simp only [hc2]
          iterate 4 (walk_at "dl"; try simp only [hM, List.length_map])
          have h17 : (10 : Int) ^ Int.toNat 17 = 100000000000000000 := by decide +kernel
          refine ⟨⟨by decide, by decide, by decide⟩, by omega, ?_⟩
          refine ⟨_, at', rfl, h0, by omega, fun r => ?_⟩
          walk_at "dl"
          exact fin (at' + 1) r (by omega) (by omega)
    · rw [if_neg (by simpa using hc)]
      iterate 3 (walk_at "dl"; try simp only [hM, List.length_map])
      exact fin at' cur h0 (by omega)
abbrev s__law_same : Stmt := top 18
abbrev n__law_same : List Str := ["found", "due", "one", "other"]
abbrev p__law_same : List Str := ["found", "due"]
theorem sc__law_same : FnScope n__law_same p__law_same (defScope s__law_same) := ⟨rfl, rfl, rfl, by decide +kernel, rfl, by decide +kernel, by decide +kernel⟩
theorem rec__law_same {f fd} (F : Fun K "_law_same" "_law_same" s__law_same f fd) (T : Txt K mg) (hmf : mg "_law_same" = some (.ref f)) (hbf : Binds K fd p__law_same []) : ∀ n : Nat, DFn P w K mg base (1 + n) f fd p__law_same (spr__law_same n)
  | 0 => DFn.never fun ds M Q ⟨_, _, _, ⟨_, _, h, _⟩, _⟩ => h
  | n + 1 => by
    have c__law_same := callee_mk (nm := "_law_same") F hmf hbf (rec__law_same F T hmf hbf n)
    refine fun_okD F sc__law_same (fun ds M Q h => ?_) fun cdv A outer s H E hr hgd ds M Q h => ?_
    · obtain ⟨_, _, rfl, ⟨x, rfl, _, _⟩, _⟩ := h; rfl
    · obtain ⟨_, _, rfl, ⟨x, rfl, hs, rfl⟩, k⟩ := h
      have hu := room64 hr
      have hu5 := room65 hr
      refine ⟨_, (dss_cons (ds_if (dt_w (dw_or (dt_rel od_is (dv 1) de_non) (dw_or1 (dt_rel od_is (dv 0) de_non)))) (dss_one (ds_ret (de_and (de_rel od_is (dv 1) de_non) (de_one (de_rel od_is (dv 0) de_non))))) dss_nil)
      (dss_cons (ds_if (dt_w (dw_or (dt_val (de_isi (t := .bool) rfl T.b_isinstance rfl T.b_bool (by decide +kernel) (dv 1))) (dw_or1 (dt_val (de_isi (t := .bool) rfl T.b_isinstance rfl T.b_bool (by decide +kernel) (dv 0)))))) (dss_one (ds_ret (de_and (de_isi (t := .bool) rfl T.b_isinstance rfl T.b_bool (by decide +kernel) (dv 1)) (de_and (de_isi (t := .bool) rfl T.b_isinstance rfl T.b_bool (by decide +kernel) (dv 0)) (de_one (de_rel (od_eq hu) (dv 0) (dv 1))))))) dss_nil)
      (dss_cons (ds_if (dt_val (de_isi2 (t := .int) (u := .str) rfl T.b_isinstance rfl T.b_int (by decide +kernel) rfl T.b_str (by decide +kernel) (dv 1))) (dss_cons (ds_if (dt_rel (od_ne hu) (de_isi (t := .int) rfl T.b_isinstance rfl T.b_int (by decide +kernel) (dv 0)) (de_isi (t := .int) rfl T.b_isinstance rfl T.b_int (by decide +kernel) (dv 1))) (dss_one (ds_ret de_bl)) dss_nil)
      (dss_one (ds_ret (de_and (de_isi2 (t := .int) (u := .str) rfl T.b_isinstance rfl T.b_int (by decide +kernel) rfl T.b_str (by decide +kernel) (dv 0)) (de_one (de_rel (od_eq hu) (dv 0) (dv 1))))))) dss_nil)
      (dss_cons (ds_if (dt_w (dw_or (dt_rel (od_ne hu) (de_isi (t := .tuple) rfl T.b_isinstance rfl T.b_tuple (by decide +kernel) (dv 1)) (de_isi (t := .tuple) rfl T.b_isinstance rfl T.b_tuple (by decide +kernel) (dv 0))) (dw_or1 (dt_rel (od_ne hu) (de_isi (t := .list) rfl T.b_isinstance rfl T.b_list (by decide +kernel) (dv 1)) (de_isi (t := .list) rfl T.b_isinstance rfl T.b_list (by decide +kernel) (dv 0)))))) (dss_one (ds_ret de_bl)) dss_nil)
      (dss_cons (ds_if (dt_rel (od_ne hu) (de_callB cd_len rfl T.b_len (by decide +kernel) (da_cons (dv 0) da_nil)) (de_callB cd_len rfl T.b_len (by decide +kernel) (da_cons (dv 1) da_nil))) (dss_one (ds_ret de_bl)) dss_nil)
      (dss_one (ds_ret (de_rel (od_notin hu5) de_bl (de_lc (fin := finF) finF_ok rfl sc__law_same.nd (di_zip rfl T.b_zip (da_cons (dv 0) (da_cons (dv 1) da_nil))) (blkOk_by (own := [("one", 2), ("other", 3)]) (N := n__law_same) (sc := defScope s__law_same) (by decide +kernel)) (gsim_tup (n := 2) (gssim_cons (gsim_name (i := 2) (by decide)) (gssim_cons (gsim_name (i := 3) (by decide)) gssim_nil))) (fun _ _ _ _ _ => pg_tup (n := 2) rfl (pgs_cons (pg_name (i := 2) sc__law_same.nd rfl (by first | exact Or.inl rfl | exact Or.inr rfl)) (pgs_cons (pg_name (i := 3) sc__law_same.nd rfl (by first | exact Or.inl rfl | exact Or.inr rfl)) pgs_nil))) (fun _ _ _ _ _ => dts_nil) (fun _ _ _ _ _ => (de_call (hj := Nat.le_refl _) c__law_same hr hgd (da_cons (dv 2) (da_cons (dv 3) da_nil))))))))))))), ?_⟩
      walk_at "dl"
      cases x <;> simp only [isNone, isTy, Bool.not_true, Bool.not_false, bOf, if_true, if_false, Bool.false_eq_true] <;> walk_at "dl"
      · exact k
      · exact k
      · exact k
      · exact k
      · rename_i xs
        refine lc_map (xs.map fun x => .d (.tuple [x, x])) (fun _ => .bool true) (fun R h => ?_) (by simpa using hs.1) (fun x hx M' _ Q' q => ?_) ?_
        · walk_at "dl"
          rw [zip_self (fun x => x)]
          exact h
        · obtain ⟨y, hy, rfl⟩ := List.mem_map.mp hx
          walk_at "dl"
          exact ⟨_, _, rfl, ⟨y, rfl, hs.2 y hy, rfl⟩, q⟩
        · have e : ((xs.map fun x => DV.d (.tuple [x, x])).map fun _ => PyData.bool true) = (xs.map fun _ => true).map PyData.bool := by simp [List.map_map, Function.comp_def]
          rw [e]
          show SeqAt.shaped (.bool false) = true ∧ SeqAt.shaped (.list _) = true ∧ _
          rw [any_false]
          refine ⟨rfl, shaped_bools _, ?_⟩
          have e2 : (xs.map fun _ => true).all (fun b => b) = true := by simp
          rw [e2]
          exact k
      · rename_i xs
        refine lc_map (xs.map fun x => .d (.tuple [x, x])) (fun _ => .bool true) (fun R h => ?_) (by simpa using hs.1) (fun x hx M' _ Q' q => ?_) ?_
        · walk_at "dl"
          rw [zip_self (fun x => x)]
          exact h
        · obtain ⟨y, hy, rfl⟩ := List.mem_map.mp hx
          walk_at "dl"
          exact ⟨_, _, rfl, ⟨y, rfl, hs.2 y hy, rfl⟩, q⟩
        · have e : ((xs.map fun x => DV.d (.tuple [x, x])).map fun _ => PyData.bool true) = (xs.map fun _ => true).map PyData.bool := by simp [List.map_map, Function.comp_def]
          rw [e]
          show SeqAt.shaped (.bool false) = true ∧ SeqAt.shaped (.list _) = true ∧ _
          rw [any_false]
          refine ⟨rfl, shaped_bools _, ?_⟩
          have e2 : (xs.map fun _ => true).all (fun b => b) = true := by simp
          rw [e2]
          exact k
      · exact hs.elim
theorem ok__law_same {f fd} (F : Fun K "_law_same" "_law_same" s__law_same f fd) (T : Txt K mg) (hmf : mg "_law_same" = some (.ref f)) (hbf : Binds K fd p__law_same []) : DFn P w K mg base 21 f fd p__law_same sp__law_same := DFn.imp (rec__law_same F T hmf hbf 20) liftF_view
abbrev s__law_one_of : Stmt := top 19
abbrev n__law_one_of : List Str := ["pen", "some"]
abbrev p__law_one_of : List Str := ["pen", "some"]
theorem sc__law_one_of : FnScope n__law_one_of p__law_one_of (defScope s__law_one_of) := ⟨rfl, rfl, rfl, by decide +kernel, rfl, by decide +kernel, by decide +kernel⟩
theorem ok__law_one_of {f fd} (F : Fun K "_law_one_of" "_law_one_of" s__law_one_of f fd) (T : Txt K mg) (c__law_take : Callee P w K mg base "_law_take" 2 p__law_take sp__law_take) : DFn P w K mg base 3 f fd p__law_one_of sp__law_one_of := by
  refine fun_okD F sc__law_one_of (fun ds M Q h => ?_) fun cdv A outer s H E hr hgd ds M Q h => ?_
  · obtain ⟨a, n, mo, xs, rfl, hM, hp, hn, h1, h2, _⟩ := h; rfl
  · obtain ⟨a, n, mo, xs, rfl, hM, hp, hn, h1, h2, k⟩ := h
    have hu := room64 hr
    have hu5 := room65 hr
    refine ⟨_, (dss_one (ds_ret (de_ix (dv 1) (de_call c__law_take hr hgd (da_cons (dv 0) (da_cons (de_callB cd_len rfl T.b_len (by decide +kernel) (da_cons (dv 1) da_nil)) da_nil)))))), ?_⟩
    walk_at "dl"
    refine take_go hM hp hn (by omega) (by omega) fun r mo' r0 r1 hp' => ?_
    walk_at "dl"
    obtain ⟨x, hx, hm⟩ := atI_some (xs := xs) r0 r1
    rw [hx]
    exact k x hm mo' hp'
abbrev s__law_is_integer : Stmt := top 20
abbrev n__law_is_integer : List Str := ["value", "low", "high"]
abbrev p__law_is_integer : List Str := ["value", "low", "high"]
theorem sc__law_is_integer : FnScope n__law_is_integer p__law_is_integer (defScope s__law_is_integer) := ⟨rfl, rfl, rfl, by decide +kernel, rfl, by decide +kernel, by decide +kernel⟩
theorem okG__law_is_integer {f fd} (F : Fun K "_law_is_integer" "_law_is_integer" s__law_is_integer f fd) (T : Txt K mg) : DFn P w K mg base 1 f fd p__law_is_integer (spG 3 false (embS F__law_is_integer)) := by
  refine fun_okG (L := 3) (mu := []) F sc__law_is_integer rfl (by decide) (by decide) fun cdv A outer s H E hr hgd => ?_
  have hu := room64 hr
  have hu5 := room65 hr
  refine ⟨_, (dss_one (ds_ret (de_and (de_isi (t := .int) rfl T.b_isinstance rfl T.b_int (by decide +kernel) (dv 0)) (de_and (de_not (de_isi (t := .bool) rfl T.b_isinstance rfl T.b_bool (by decide +kernel) (dv 0))) (de_one (de_chain od_le od_le (dv 1) (dv 0) (dv 2))))))), ?_⟩
  unfold F__law_is_integer
  exact (sps_ret (sp_andV (sp_isi1 (sp_varS 0 (by decide))) (sp_andV (sp_notV (sp_isi1 (sp_varS 0 (by decide)))) (sp_chain os_le os_le (sp_varS 1 (by decide)) (sp_varS 0 (by decide)) (sp_varS 2 (by decide))))))
abbrev s__law_odd : Stmt := top 21
abbrev n__law_odd : List Str := ["pen"]
abbrev p__law_odd : List Str := ["pen"]
theorem sc__law_odd : FnScope n__law_odd p__law_odd (defScope s__law_odd) := ⟨rfl, rfl, rfl, by decide +kernel, rfl, by decide +kernel, by decide +kernel⟩
theorem ok__law_odd {f fd} (F : Fun K "_law_odd" "_law_odd" s__law_odd f fd) (T : Txt K mg) (c__law_one_of : Callee P w K mg base "_law_one_of" 3 p__law_one_of sp__law_one_of) : DFn P w K mg base 4 f fd p__law_odd sp__law_odd := by
  refine fun_okD F sc__law_odd (fun ds M Q h => ?_) fun cdv A outer s H E hr hgd ds M Q h => ?_
  · obtain ⟨a, n, mo, rfl, hM, hp, hn, _⟩ := h; rfl
  · obtain ⟨a, n, mo, rfl, hM, hp, hn, k⟩ := h
    have hu := room64 hr
    have hu5 := room65 hr
    refine ⟨_, (dss_one (ds_ret (de_call c__law_one_of hr hgd (da_cons (dv 0) (da_cons (de_lst (da_cons de_non (da_cons de_bl (da_cons de_bl (da_cons de_int (da_cons de_int (da_cons (de_neg de_int) (da_cons de_str (da_cons de_str (da_cons (de_tup da_nil) (da_cons (de_lst da_nil) (da_cons de_dct0 (da_cons (de_tup (da_cons de_int da_nil)) (da_cons (de_tup (da_cons de_int (da_cons de_int da_nil))) (da_cons (de_lst (da_cons (de_tup da_nil) da_nil)) (da_cons (de_tup (da_cons (de_tup da_nil) da_nil)) (da_cons de_int (da_cons (de_bin od_pow de_int de_int) da_nil)))))))))))))))))) da_nil))))), ?_⟩
    walk_at "dl"
    have h20 : (10 : Int) ^ Int.toNat 20 = 100000000000000000000 := by decide +kernel
    rw [h20]
    refine ⟨list_len (by decide), list_len (by decide), list_len (by decide), list_len (by decide), list_len (by decide), list_len (by decide), list_len (by decide), list_len (by decide), ⟨by decide, by decide, by decide⟩, list_len (by decide), ?_⟩
    exact one_go hM hp hn (by decide) (by decide) fun x hx mo' hp' => k x mo' hx hp'
abbrev s__law_bent : Stmt := top 22
abbrev n__law_bent : List Str := ["pen", "value", "found", "way", "k"]
abbrev p__law_bent : List Str := ["pen", "value"]
theorem sc__law_bent : FnScope n__law_bent p__law_bent (defScope s__law_bent) := ⟨rfl, rfl, rfl, by decide +kernel, rfl, by decide +kernel, by decide +kernel⟩
theorem rec__law_bent {f fd} (F : Fun K "_law_bent" "_law_bent" s__law_bent f fd) (T : Txt K mg) (hmf : mg "_law_bent" = some (.ref f)) (hbf : Binds K fd p__law_bent []) (c__law_odd : Callee P w K mg base "_law_odd" 4 p__law_odd sp__law_odd) (c__law_one_of : Callee P w K mg base "_law_one_of" 3 p__law_one_of sp__law_one_of) (c__law_take : Callee P w K mg base "_law_take" 2 p__law_take sp__law_take) : ∀ n : Nat, DFn P w K mg base (5 + n) f fd p__law_bent (spr__law_bent n)
  | 0 => DFn.never fun ds M Q ⟨_, _, _, _, _, _, _, _, _, _, _, _, h, _⟩ => Nat.not_lt_zero _ h
  | n + 1 => by
    have c__law_bent := callee_mk (nm := "_law_bent") F hmf hbf (rec__law_bent F T hmf hbf c__law_odd c__law_one_of c__law_take n)
    refine fun_okD F sc__law_bent (fun ds M Q h => ?_) fun cdv A outer s H E hr hgd ds M Q h => ?_
    · obtain ⟨_, _, _, _, _, _, _, rfl, _⟩ := h; rfl
    · obtain ⟨a, x, m, mo, W, D, B, rfl, hM, hp, hm, hx, hD, hB, hW, k⟩ := h
      have hu := room64 hr
      have hu5 := room65 hr
      have hr : Room (5 + n) _ := hr
      refine ⟨_, (dss_cons (ds_if (dt_w (dw_and (dt_val (de_isi (t := .int) rfl T.b_isinstance rfl T.b_int (by decide +kernel) (dv 1))) (dw_and1 (dt_rel od_gt (de_call c__law_take hr hgd (da_cons (dv 0) (da_cons de_int da_nil))) de_int)))) (dss_one (ds_ret (de_call c__law_one_of hr hgd (da_cons (dv 0) (da_cons (de_lst (da_cons (de_bin od_addB (dv 1) de_int) (da_cons (de_bin od_subB (dv 1) de_int) (da_cons (de_ifExp (dt_chain od_leB od_ltB de_int (dv 1) de_int) (de_rel (od_eq hu) (dv 1) de_int) (de_neg (dv 1))) (da_cons (de_bin od_mulB (dv 1) de_int) da_nil))))) da_nil))))) dss_nil)
      (dss_cons (ds_if (dt_w (dw_or (dt_not (dt_val (de_isi2 (t := .tuple) (u := .list) rfl T.b_isinstance rfl T.b_tuple (by decide +kernel) rfl T.b_list (by decide +kernel) (dv 1)))) (dw_or (dt_rel (od_eq hu) (de_callB cd_len rfl T.b_len (by decide +kernel) (da_cons (dv 1) da_nil)) de_int) (dw_or1 (dt_rel (od_eq hu) (de_call c__law_take hr hgd (da_cons (dv 0) (da_cons de_int da_nil))) de_int))))) (dss_one (ds_ret (de_call c__law_odd hr hgd (da_cons (dv 0) da_nil)))) dss_nil)
      (dss_cons (ds_par3 (i := 2) (j := 3) (l := 4) rfl sc__law_bent.nd rfl rfl rfl (by decide) (by decide) (by decide) rfl rfl rfl (da_cons (de_callTy cd_listM rfl T.b_list (by decide +kernel) (da_cons (dv 1) da_nil)) (da_cons (de_call c__law_take hr hgd (da_cons (dv 0) (da_cons de_int da_nil))) (da_cons (de_call c__law_take hr hgd (da_cons (dv 0) (da_cons (de_callB cd_len rfl T.b_len (by decide +kernel) (da_cons (dv 1) da_nil)) da_nil))) da_nil))) (by rfl))
      (dss_cons (ds_if (dt_rel od_lt (dv 3) de_int) (dss_one (ds_setIx (de_call (hj := Nat.le_refl _) c__law_bent hr hgd (da_cons (dv 0) (da_cons (de_ix (dv 2) (dv 4)) da_nil))) (dv 2) (dv 4))) (dss_frz 2 (dss_one (ds_set (i := 2) sc__law_bent.nd rfl (by first | exact Or.inl rfl | exact Or.inr rfl) (de_ix (de_lst (da_cons (de_bin od_add (de_slice (dv 2) do_none (do_some (dv 4))) (de_slice (dv 2) (do_some (de_bin od_addB (dv 4) de_int)) do_none)) (da_cons (de_bin od_add (dv 2) (de_slice (dv 2) (do_some (dv 4)) (do_some (de_bin od_addB (dv 4) de_int)))) (da_cons (de_rev (dv 2)) da_nil)))) (de_bin od_subB (dv 3) de_int))))))
      (dss_frz 2 (dss_one (ds_ret (de_ifExp (dt_rel (od_eq hu) (de_isi (t := .tuple) rfl T.b_isinstance rfl T.b_tuple (by decide +kernel) (dv 1)) (de_rel od_gt (de_call c__law_take hr hgd (da_cons (dv 0) (da_cons de_int da_nil))) de_int)) (de_callTy cd_tuple rfl T.b_tuple (by decide +kernel) (da_cons (dv 2) da_nil)) (dv 2))))))))), ?_⟩
      have odd : ∀ (mo1 : MO) (m1 : Nat), PenMO m1 mo1 → m1 ≤ m + 5 → sp__law_odd [.r a] (mupd M a mo1) Q := fun mo1 m1 p1 h1 => odd_go mupd_same p1 (by omega) fun y mo2 hy p2 => by
        rw [mupd_mupd]
        exact k y mo2 (odd_nice y hy).mono (p2.mono (by omega))
      have seq : ∀ (isT : Bool) (xs : List PyData), x = (if isT = true then .tuple xs else .list xs) → NiceL (W - 3) (D - 1) B xs ∧ 3 ≤ W ∧ 1 ≤ D := fun isT xs e => by
        subst e
        cases isT
        · obtain ⟨h1, h2, h3⟩ := nice_list_inv hx; exact ⟨h3, h1, h2⟩
        · obtain ⟨h1, h2, h3⟩ := nice_tuple_inv hx; exact ⟨h3, h1, h2⟩
      have fin : ∀ (ys : List PyData) (mo1 : MO) (m1 : Nat) (b : Bool) (r : Int), NiceL (2 * W + 197) (D + 2) (B + 11) ys → PenMO m1 mo1 → m1 ≤ m + 10 * (n + 1) → if (b == decide (0 < r)) = true then Q (.d (.tuple ys)) (mupd M a mo1) else Q (.d (.list ys)) (mupd M a mo1) := fun ys mo1 m1 b r h1 p1 h2 => by
        split
        · exact k _ mo1 (nice_tuple h1).mono (p1.mono h2)
        · exact k _ mo1 (nice_list h1).mono (p1.mono h2)
      cases x with
      | none =>
        walk_at "dl"
        rw [← mupd_self hM]
        exact odd _ _ hp (by omega)
      | str z =>
        walk_at "dl"
        rw [← mupd_self hM]
        exact odd _ _ hp (by omega)
      | dict z =>
        walk_at "dl"
        rw [← mupd_self hM]
        exact odd _ _ hp (by omega)
      | bool b =>
        walk_at "dl"
        refine take_go hM hp (by omega) (by decide) (by decide) fun r mo1 r0 r1 p1 => ?_
        walk_at "dl"
        by_cases hr0 : 0 < r
        · have e1 : decide (0 ≤ b2i b) = true := by cases b <;> rfl
          have e2 : decide (b2i b < 2) = true := by cases b <;> rfl
          rw [if_pos (by simpa using hr0), e1, e2]
          walk_at "dl"
          refine ⟨.inr ⟨by decide, by decide⟩, list_len (n := 4) (by decide), ?_⟩
          refine one_go mupd_same p1 (by omega) (by simp) (by simp) fun y hy mo2 p2 => ?_
          rw [mupd_mupd]
          refine k y mo2 ?_ (p2.mono (by omega))
          have q : Nice 20 0 20 y := by
            have h := List.all_eq_true (p := fun x => decide (wt x ≤ 20) && decide (x.depth ≤ 0) && fits 20 x).mp (by cases b <;> decide +kernel) y hy
            exact nice_mk h
          exact q.mono
        · rw [if_neg (by simpa using hr0)]
          exact odd _ _ p1 (by omega)
      | int i =>
        walk_at "dl"
        refine take_go hM hp (by omega) (by decide) (by decide) fun r mo1 r0 r1 p1 => ?_
        walk_at "dl"
        have hw := hx.w
        have hf := hx.f
        simp only [wt, fits, decide_eq_true_eq] at hw hf
        obtain ⟨b1, b2, b3, b4⟩ := bent_ints hB hf (2 * W + 200) (D + 3) (by omega)
        have go : ∀ z : PyData, Nice (2 * W + 200) (D + 3) (B + 11) z → CMul i 1000 ∧ 4 ≤ sizeLine ∧ sp__law_one_of [.r a, .d (.list [.int (i + 1), .int (i - 1), z, .int (i * 1000)])] (mupd M a mo1) Q := fun z hz => by
          refine ⟨.inr ⟨by decide, by decide⟩, list_len (n := 4) (by decide), ?_⟩
          refine one_go mupd_same p1 (by omega) (by simp) (by simp) fun y hy mo2 p2 => ?_
          rw [mupd_mupd]
          refine k y mo2 ?_ (p2.mono (by omega))
          simp only [List.mem_cons, List.not_mem_nil, or_false] at hy
          rcases hy with rfl | rfl | rfl | rfl <;> assumption
        by_cases hr0 : 0 < r
        · rw [if_pos (by simpa using hr0)]
          split
          · split
            · exact go _ nice_bool
            · exact go _ b3
          · exact go _ b3
        · rw [if_neg (by simpa using hr0)]
          exact odd _ _ p1 (by omega)
      | list xs =>
        obtain ⟨hn, hW3, hD1⟩ := seq false xs rfl
        walk_at "dl"
        by_cases hl : xs = []
        · subst hl
          rw [if_pos (by rfl), ← mupd_self hM]
          exact odd _ _ hp (by omega)
        have hlen : 0 < xs.length := List.length_pos_iff.mpr hl
        have hlen2 : xs.length < 100000 := by
          have : ∀ l : List PyData, 2 * l.length ≤ wtAll l := by
            intro l
            induction l with
            | nil => simp
            | cons y ys ih => simp only [wtAll, List.length_cons]; omega
          have := this xs
          have := hn.w
          omega
        rw [if_neg (by simpa using hl)]
        refine take_go hM hp (by omega) (by decide) (by decide) fun r1 mo1 _ _ p1 => ?_
        walk_at "dl"
        by_cases hr : r1 = 0
        · rw [if_pos (by simpa using hr)]
          exact odd _ _ p1 (by omega)
        rw [if_neg (by simpa using hr)]
        intro p hpn
        have hpa : p ≠ a := ne_of_mem (M := mupd M a mo1) mupd_same hpn
        have hpM : M p = none := by rw [mupd_ne hpa] at hpn; exact hpn
        rw [mupd_comm (Ne.symm hpa)]
        refine take_go mupd_same p1 (by omega) (by decide) (by decide) fun way mo2 w0 w1 p2 => ?_
        rw [mupd_mupd]
        refine take_go mupd_same p2 (by omega) (by omega) (by omega) fun kk mo3 k0 k1 p3 => ?_
        rw [mupd_mupd]
        walk_at "dl"
        have e0 : ∀ (L : MO) (mo' : MO), mupd (mupd M p L) a mo' p = some L := fun L mo' => by rw [mupd_ne hpa, mupd_same]
        by_cases hw : way < 7
        · rw [if_pos (by simpa using hw)]
          obtain ⟨x0, hx0, hm0⟩ := atI_some (xs := xs) k0 k1
          rw [e0]
          walk_at "dl"
          rw [atI_map, hx0]
          walk_at "dl"
          refine ⟨a, x0, m + 3, mo3, wt x0, D - 1, B, rfl, mupd_same, p3, by omega, ⟨Nat.le_refl _, (hn.mem hm0).d, (hn.mem hm0).f⟩, by omega, hB, by have := (hn.mem hm0).w; omega, fun y mo4 hy p4 => ?_⟩
          rw [mupd_mupd]
          walk_at "dl"
          rw [e0]
          walk_at "dl"
          rw [List.length_map, ixN_nn k0 k1]
          walk_at "dl"
          rw [← List.map_set, allD_map]
          walk_at "dl"
          rw [mupd_comm hpa, mupd_mupd, mdel_mupd (by rw [mupd_ne hpa]; exact hpM)]
          refine take_go mupd_same p4 (by omega) (by decide) (by decide) fun r5 mo5 _ _ p5 => ?_
          rw [mupd_mupd]
          walk_at "dl"
          have q : NiceL (2 * W + 197) (D + 2) (B + 11) (xs.set kk.toNat y) := (bent_set (by rw [← hx0, atI_nn k0 k1]) hn hy (by omega) (by omega)).mono
          exact fin _ mo5 _ _ _ q p5 (by omega)
        · rw [if_neg (by simpa using hw)]
          rw [e0]
          walk_at "dl"
          rw [mupd_comm hpa, mdel_mupd (by rw [mupd_ne hpa]; exact hpM)]
          obtain ⟨j, rfl⟩ : ∃ j : Nat, kk = (j : Int) := ⟨kk.toNat, by omega⟩
          have e1 : ((j : Int) + 1) = ((j + 1 : Nat) : Int) := by omega
          rw [e1]
          simp only [cutD_un, cutD_n, cutD_nn, List.length_take, List.length_drop]
          have s1 : (xs.take j ++ xs.drop (j + 1)).Sublist xs := by
            have h := (List.Sublist.refl (xs.take j)).append (List.drop_sublist_drop_left xs (show j ≤ j + 1 by omega))
            rw [List.take_append_drop] at h
            exact h
          have s2 : ((xs.drop j).take (j + 1 - j)).Sublist xs := (List.take_sublist _ _).trans (List.drop_sublist _ _)
          have go : ∀ ys : List PyData, NiceL (2 * W + 197) (D + 2) (B + 11) ys → sp__law_take [.r a, .d (.int 12)] (mupd M a mo3) fun x_2 M1 => iOp0 (fun i j => .bool (decide (j < i))) x_2 (.d (.int 0)) M1 fun y M2 => eqD false (.d (.bool false)) y M2 fun x M1 => match x with
              | .d (.bool k) => if k = true then Q (.d (.tuple ys)) M1 else Q (.d (.list ys)) M1
              | _ => False := fun ys hy => by
            refine take_go mupd_same p3 (by omega) (by decide) (by decide) fun r5 mo5 _ _ p5 => ?_
            rw [mupd_mupd]
            walk_at "dl"
            exact fin _ mo5 _ _ _ hy p5 (by omega)
          refine ⟨list_len (by omega), list_len (by omega), list_len (n := 3) (by decide), ?_⟩
          have hv : way = 7 ∨ way = 8 ∨ way = 9 := by omega
          rcases hv with rfl | rfl | rfl
          · rw [show (7 : Int) - 7 = 0 from rfl]
            walk_at "dl"
            exact go _ (hn.sub s1).mono
          · rw [show (8 : Int) - 7 = 1 from rfl]
            walk_at "dl"
            exact go _ (niceL_append hn (hn.sub s2)).mono
          · rw [show (9 : Int) - 7 = 2 from rfl]
            walk_at "dl"
            exact go _ hn.rev.mono
      | tuple xs =>
        obtain ⟨hn, hW3, hD1⟩ := seq true xs rfl
        walk_at "dl"
        by_cases hl : xs = []
        · subst hl
          rw [if_pos (by rfl), ← mupd_self hM]
          exact odd _ _ hp (by omega)
        have hlen : 0 < xs.length := List.length_pos_iff.mpr hl
        have hlen2 : xs.length < 100000 := by
          have : ∀ l : List PyData, 2 * l.length ≤ wtAll l := by
            intro l
            induction l with
            | nil => simp
            | cons y ys ih => simp only [wtAll, List.length_cons]; omega
          have := this xs
          have := hn.w
          omega
        rw [if_neg (by simpa using hl)]
        refine take_go hM hp (by omega) (by decide) (by decide) fun r1 mo1 _ _ p1 => ?_
        walk_at "dl"
        by_cases hr : r1 = 0
        · rw [if_pos (by simpa using hr)]
          exact odd _ _ p1 (by omega)
        rw [if_neg (by simpa using hr)]
        intro p hpn
        have hpa : p ≠ a := ne_of_mem (M := mupd M a mo1) mupd_same hpn
        have hpM : M p = none := by rw [mupd_ne hpa] at hpn; exact hpn
        rw [mupd_comm (Ne.symm hpa)]
        refine take_go mupd_same p1 (by omega) (by decide) (by decide) fun way mo2 w0 w1 p2 => ?_
        rw [mupd_mupd]
        refine take_go mupd_same p2 (by omega) (by omega) (by omega) fun kk mo3 k0 k1 p3 => ?_
        rw [mupd_mupd]
        walk_at "dl"
        have e0 : ∀ (L : MO) (mo' : MO), mupd (mupd M p L) a mo' p = some L := fun L mo' => by rw [mupd_ne hpa, mupd_same]
        by_cases hw : way < 7
        · rw [if_pos (by simpa using hw)]
          obtain ⟨x0, hx0, hm0⟩ := atI_some (xs := xs) k0 k1
          rw [e0]
          walk_at "dl"
          rw [atI_map, hx0]
          walk_at "dl"
          refine ⟨a, x0, m + 3, mo3, wt x0, D - 1, B, rfl, mupd_same, p3, by omega, ⟨Nat.le_refl _, (hn.mem hm0).d, (hn.mem hm0).f⟩, by omega, hB, by have := (hn.mem hm0).w; omega, fun y mo4 hy p4 => ?_⟩
          rw [mupd_mupd]
          walk_at "dl"
          rw [e0]
          walk_at "dl"
          rw [List.length_map, ixN_nn k0 k1]
          walk_at "dl"
          rw [← List.map_set, allD_map]
          walk_at "dl"
          rw [mupd_comm hpa, mupd_mupd, mdel_mupd (by rw [mupd_ne hpa]; exact hpM)]
          refine take_go mupd_same p4 (by omega) (by decide) (by decide) fun r5 mo5 _ _ p5 => ?_
          rw [mupd_mupd]
          walk_at "dl"
          have q : NiceL (2 * W + 197) (D + 2) (B + 11) (xs.set kk.toNat y) := (bent_set (by rw [← hx0, atI_nn k0 k1]) hn hy (by omega) (by omega)).mono
          exact fin _ mo5 _ _ _ q p5 (by omega)
        · rw [if_neg (by simpa using hw)]
          rw [e0]
          walk_at "dl"
          rw [mupd_comm hpa, mdel_mupd (by rw [mupd_ne hpa]; exact hpM)]
          obtain ⟨j, rfl⟩ : ∃ j : Nat, kk = (j : Int) := ⟨kk.toNat, by omega⟩
          have e1 : ((j : Int) + 1) = ((j + 1 : Nat) : Int) := by omega
          rw [e1]
          simp only [cutD_un, cutD_n, cutD_nn, List.length_take, List.length_drop]
          have s1 : (xs.take j ++ xs.drop (j + 1)).Sublist xs := by
            have h := (List.Sublist.refl (xs.take j)).append (List.drop_sublist_drop_left xs (show j ≤ j + 1 by omega))
            rw [List.take_append_drop] at h
            exact h
          have s2 : ((xs.drop j).take (j + 1 - j)).Sublist xs := (List.take_sublist _ _).trans (List.drop_sublist _ _)
          have go : ∀ ys : List PyData, NiceL (2 * W + 197) (D + 2) (B + 11) ys → sp__law_take [.r a, .d (.int 12)] (mupd M a mo3) fun x_2 M1 => iOp0 (fun i j => .bool (decide (j < i))) x_2 (.d (.int 0)) M1 fun y M2 => eqD false (.d (.bool true)) y M2 fun x M1 => match x with
              | .d (.bool k) => if k = true then Q (.d (.tuple ys)) M1 else Q (.d (.list ys)) M1
              | _ => False := fun ys hy => by
            refine take_go mupd_same p3 (by omega) (by decide) (by decide) fun r5 mo5 _ _ p5 => ?_
            rw [mupd_mupd]
            walk_at "dl"
            exact fin _ mo5 _ _ _ hy p5 (by omega)
          refine ⟨list_len (by omega), list_len (by omega), list_len (n := 3) (by decide), ?_⟩
          have hv : way = 7 ∨ way = 8 ∨ way = 9 := by omega
          rcases hv with rfl | rfl | rfl
          · rw [show (7 : Int) - 7 = 0 from rfl]
            walk_at "dl"
            exact go _ (hn.sub s1).mono
          · rw [show (8 : Int) - 7 = 1 from rfl]
            walk_at "dl"
            exact go _ (niceL_append hn (hn.sub s2)).mono
          · rw [show (9 : Int) - 7 = 2 from rfl]
            walk_at "dl"
            exact go _ hn.rev.mono
theorem ok__law_bent {f fd} (F : Fun K "_law_bent" "_law_bent" s__law_bent f fd) (T : Txt K mg) (hmf : mg "_law_bent" = some (.ref f)) (hbf : Binds K fd p__law_bent []) (c__law_odd : Callee P w K mg base "_law_odd" 4 p__law_odd sp__law_odd) (c__law_one_of : Callee P w K mg base "_law_one_of" 3 p__law_one_of sp__law_one_of) (c__law_take : Callee P w K mg base "_law_take" 2 p__law_take sp__law_take) : DFn P w K mg base 25 f fd p__law_bent sp__law_bent := (rec__law_bent F T hmf hbf c__law_odd c__law_one_of c__law_take 20)
abbrev s__law_draw_test : Stmt := top 23
abbrev n__law_draw_test : List Str := ["pen", "values", "kinds", "found", "kind", "value"]
abbrev p__law_draw_test : List Str := ["pen", "values", "kinds"]
theorem sc__law_draw_test : FnScope n__law_draw_test p__law_draw_test (defScope s__law_draw_test) := ⟨rfl, rfl, rfl, by decide +kernel, rfl, by decide +kernel, by decide +kernel⟩
theorem ok__law_draw_test {f fd} (F : Fun K "_law_draw_test" "_law_draw_test" s__law_draw_test f fd) (T : Txt K mg) (c__law_take : Callee P w K mg base "_law_take" 2 p__law_take sp__law_take) : DFn P w K mg base 3 f fd p__law_draw_test sp__law_draw_test := by
  refine fun_okD F sc__law_draw_test (fun ds M Q h => ?_) fun cdv A outer s H E hr hgd ds M Q h => ?_
  · obtain ⟨a, v, kd, n, mo, rfl, hv0, hv3, hk0, hk3, hM, hp, hn, _⟩ := h; rfl
  · obtain ⟨a, v, kd, n, mo, rfl, hv0, hv3, hk0, hk3, hM, hp, hn, k⟩ := h
    have hu := room64 hr
    have hu5 := room65 hr
    refine ⟨_, (dss_cons (ds_set (i := 3) sc__law_draw_test.nd rfl (by first | exact Or.inl rfl | exact Or.inr rfl) (de_lst da_nil))
      (dss_cons (ds_for PassesOwn.never rfl (di_range1 rfl T.b_range (da_cons (dv 2) da_nil)) (dg_name (i := 4) (vs := [4]) sc__law_draw_test.nd rfl (by first | exact Or.inl rfl | exact Or.inr rfl) (by decide)) (dss_one (ds_set (i := 3) sc__law_draw_test.nd rfl (by first | exact Or.inl rfl | exact Or.inr rfl) (de_bin od_add (dv 3) (de_lc (fin := finF) finF_ok rfl sc__law_draw_test.nd (di_range1 rfl T.b_range (da_cons (dv 1) da_nil)) (blkOk_by (own := [("value", 5)]) (N := n__law_draw_test) (sc := defScope s__law_draw_test) (by decide +kernel)) (gsim_name (i := 5) (by decide)) (fun _ _ _ _ _ => pg_name (i := 5) sc__law_draw_test.nd rfl (by first | exact Or.inl rfl | exact Or.inr rfl)) (fun _ _ _ _ _ => dts_one (dt_rel od_gt (de_call c__law_take hr hgd (da_cons (dv 0) (da_cons de_int da_nil))) de_int)) (fun _ _ _ _ _ => (de_tup (da_cons (dv 4) (da_cons (dv 5) da_nil)))))))))
      (dss_one (ds_ret (de_callTy cd_tuple rfl T.b_tuple (by decide +kernel) (da_cons (dv 3) da_nil)))))), ?_⟩
    walk_at "dl"
    refine ⟨list_len (n := 0) (by decide), by omega, by omega, ?_⟩
    refine loopD_ind (fun rest δ M1 => ∃ (i : Nat) (mo1 : MO) (ps : List (List Int)) (v4 v5 : Option DV), rest = (rngD 0 kd.toNat).drop i ∧ (i : Int) ≤ kd ∧ δ = [some (.r a), some (.d (.int v)), some (.d (.int kd)), some (.d (.list (ps.map tupI))), v4, v5] ∧ M1 = mupd M a mo1 ∧ PenMO (n + 3 * i) mo1 ∧
      ps.length ≤ 3 * i ∧ ∀ p ∈ ps, ∃ x y : Int, p = [x, y] ∧ 0 ≤ x ∧ x < kd ∧ 0 ≤ y ∧ y < v) (fun _ _ _ _ => trivial) ?_ ?_ _ _ _ ⟨0, mo, [], _, _, rfl, by omega, rfl, (mupd_self hM).symm, hp, by simp, by simp⟩
    · rintro δ M1 ⟨i, mo1, ps, v4, v5, hr, hi, rfl, rfl, p1, hl, hps⟩
      walk_at "dl"
      exact k ps mo1 ⟨by omega, hps⟩ (by omega) (p1.mono (by omega))
    · rintro x rest δ M1 ⟨i, mo1, ps, v4, v5, hr, hi, rfl, rfl, p1, hl, hps⟩ N hN
      obtain ⟨hi2, rfl, rfl⟩ := rng_step hr
      walk_at "dl"
      refine lc_indT (rngD 0 v.toNat) (fun l acc M3 => ∃ (j : Nat) (mo2 : MO) (qs : List (List Int)), l = (rngD 0 v.toNat).drop j ∧ (j : Int) ≤ v ∧ M3 = mupd M a mo2 ∧ PenMO (n + 3 * i + j) mo2 ∧ acc = qs.map tupI ∧ qs.length ≤ j ∧ ∀ p ∈ qs, ∃ x y : Int, p = [x, y] ∧ 0 ≤ x ∧ x < kd ∧ 0 ≤ y ∧ y < v)
        (fun R h => ?_) ⟨0, mo1, [], rfl, by omega, rfl, p1, rfl, by simp, by simp⟩ ?_ ?_
      · walk_at "dl"
        exact ⟨by omega, by omega, h⟩
      · rintro x l acc M3 D hD ⟨j, mo2, qs, hr2, hj, rfl, p2, rfl, hql, hqs⟩
        obtain ⟨hj2, rfl, rfl⟩ := rng_step hr2
        have hne := ne_of_mem (M := mupd M a mo2) mupd_same hD
        refine ⟨by rw [List.length_map]; exact list_lt (by omega), fun N2 Z hN2 hZ => ?_⟩
        have e : (qs.map tupI).map DV.d = (qs.map tupI).map DV.d := rfl
        generalize hL : MO.lst ((qs.map tupI).map DV.d) = L at hN2 hZ ⊢
        walk_at "dl"
        refine take_go (mo := mo2) (by rw [mupd_ne (Ne.symm hne), mupd_same]) p2 (by omega) (by decide) (by decide) fun r mo3 r0 r1 p3 => ?_
        rw [mupd_comm hne, mupd_mupd]
        have hD3 : mupd M a mo3 D = none := by rw [mupd_ne hne] at hD ⊢; exact hD
        walk_at "dl"
        split
        · refine ⟨list_len (n := 2) (by decide), hN2 _ _ hD3 ⟨j + 1, mo3, qs ++ [[0 + (i : Int), 0 + (j : Int)]], rfl, by omega, rfl, p3.mono (by omega), by rw [List.map_append]; rfl, by simp; omega, ?_⟩⟩
          intro p hp'
          rcases List.mem_append.mp hp' with q | q
          · exact hqs p q
          · simp only [List.mem_cons, List.not_mem_nil, or_false] at q
            subst q
            exact ⟨_, _, rfl, by omega, by omega, by omega, by omega⟩
        · exact hZ _ hD3 ⟨j + 1, mo3, qs, rfl, by omega, rfl, p3.mono (by omega), rfl, by omega, hqs⟩
      · rintro acc M3 ⟨j, mo2, qs, hr2, hj, rfl, p2, rfl, hql, hqs⟩
        have hjv := rng_nil hr2
        walk_at "dl"
        refine ⟨by simp only [List.length_map]; exact list_len (by omega), hN _ _ ⟨i + 1, mo2, ps ++ qs, _, _, rfl, by omega, by rw [List.map_append], rfl, p2.mono (by omega), by simp; omega, ?_⟩⟩
        intro p hp'
        rcases List.mem_append.mp hp' with q | q
        · exact hps p q
        · exact hqs p q
abbrev s__law_draw_case : Stmt := top 24
abbrev n__law_draw_case : List Str := ["pen", "shapes", "n", "values", "kinds"]
abbrev p__law_draw_case : List Str := ["pen", "shapes"]
theorem sc__law_draw_case : FnScope n__law_draw_case p__law_draw_case (defScope s__law_draw_case) := ⟨rfl, rfl, rfl, by decide +kernel, rfl, by decide +kernel, by decide +kernel⟩
theorem ok__law_draw_case {f fd} (F : Fun K "_law_draw_case" "_law_draw_case" s__law_draw_case f fd) (T : Txt K mg) (c__law_draw_test : Callee P w K mg base "_law_draw_test" 3 p__law_draw_test sp__law_draw_test) (c__law_one_of : Callee P w K mg base "_law_one_of" 3 p__law_one_of sp__law_one_of) (c__law_take : Callee P w K mg base "_law_take" 2 p__law_take sp__law_take) : DFn P w K mg base 4 f fd p__law_draw_case sp__law_draw_case := by
  refine fun_okD F sc__law_draw_case (fun ds M Q h => ?_) fun cdv A outer s H E hr hgd ds M Q h => ?_
  · obtain ⟨a, ss, m, mo, rfl, ⟨hs1, hs2, hs3⟩, hM, hp, hm, _⟩ := h; rfl
  · obtain ⟨a, ss, m, mo, rfl, ⟨hs1, hs2, hs3⟩, hM, hp, hm, k⟩ := h
    have hu := room64 hr
    have hu5 := room65 hr
    refine ⟨_, (dss_cons (ds_asg (de_call c__law_one_of hr hgd (da_cons (dv 0) (da_cons (dv 1) da_nil))) (dg_tup (n := 3) rfl (dgs_cons (dg_name (i := 2) (vs := [2, 3, 4]) sc__law_draw_case.nd rfl (by first | exact Or.inl rfl | exact Or.inr rfl) (by decide)) (dgs_cons (dg_name (i := 3) (vs := [2, 3, 4]) sc__law_draw_case.nd rfl (by first | exact Or.inl rfl | exact Or.inr rfl) (by decide)) (dgs_cons (dg_name (i := 4) (vs := [2, 3, 4]) sc__law_draw_case.nd rfl (by first | exact Or.inl rfl | exact Or.inr rfl) (by decide)) dgs_nil)))))
      (dss_one (ds_ret (de_tup (da_cons (dv 2) (da_cons (dv 3) (da_cons (dv 4) (da_cons (de_call c__law_draw_test hr hgd (da_cons (dv 0) (da_cons (dv 3) (da_cons (dv 4) da_nil)))) (da_cons (de_rel (od_eq hu) (de_call c__law_take hr hgd (da_cons (dv 0) (da_cons de_int da_nil))) de_int) da_nil))))))))), ?_⟩
    walk_at "dl"
    refine one_go hM hp (by omega) (by rw [List.length_map]; exact hs1) (by rw [List.length_map]; omega) fun x hx mo1 p1 => ?_
    obtain ⟨s, hsm, rfl⟩ := List.mem_map.mp hx
    obtain ⟨n, v, kd, rfl, n1, n3, v1, v3, k1, k2⟩ := hs3 s hsm
    simp only [tupI, List.map]
    walk_at "dl"
    refine draw_test_go (by omega) v3 (by omega) (by omega) mupd_same p1 (by omega) fun ps mo2 hps hl p2 => ?_
    rw [mupd_mupd]
    walk_at "dl"
    refine take_go mupd_same p2 (by omega) (by decide) (by decide) fun r mo3 r0 r1 p3 => ?_
    rw [mupd_mupd]
    walk_at "dl"
    exact ⟨list_len (n := 5) (by decide), k n v kd ps _ mo3 n1 n3 v1 v3 k1 k2 hps hl p3⟩
abbrev s__law_value_ok : Stmt := top 25
abbrev n__law_value_ok : List Str := ["case", "value", "pair"]
abbrev p__law_value_ok : List Str := ["case", "value"]
theorem sc__law_value_ok : FnScope n__law_value_ok p__law_value_ok (defScope s__law_value_ok) := ⟨rfl, rfl, rfl, by decide +kernel, rfl, by decide +kernel, by decide +kernel⟩
theorem okG__law_value_ok {f fd} (F : Fun K "_law_value_ok" "_law_value_ok" s__law_value_ok f fd) (T : Txt K mg) : DFn P w K mg base 1 f fd p__law_value_ok (spG 2 false (embS F__law_value_ok)) := by
  refine fun_okG (L := 3) (mu := []) F sc__law_value_ok rfl (by decide) (by decide) fun cdv A outer s H E hr hgd => ?_
  have hu := room64 hr
  have hu5 := room65 hr
  refine ⟨_, (dss_one (ds_ret (de_rel (od_ne hu) (de_lc (fin := finF) finF_ok rfl sc__law_value_ok.nd (di_seq (de_ix (dv 0) de_int)) (blkOk_by (own := [("pair", 2)]) (N := n__law_value_ok) (sc := defScope s__law_value_ok) (by decide +kernel)) (gsim_name (i := 2) (by decide)) (fun _ _ _ _ _ => pg_name (i := 2) sc__law_value_ok.nd rfl (by first | exact Or.inl rfl | exact Or.inr rfl)) (fun _ _ _ _ _ => dts_one (dt_rel (od_eq hu) (de_ix (dv 2) de_int) (dv 1))) (fun _ _ _ _ _ => (dv 2))) (de_lst da_nil)))), ?_⟩
  unfold F__law_value_ok
  exact (sps_ret (sp_op os_ne (sp_lc (by decide) (spj_seq (sp_opV ov_ix (sp_varS 0 (by decide)) (sp_c _))) (sg_name 2 (by decide) (by decide)) (tq_name 2) (spt_b (sp_op os_eq (sp_opV ov_ix (sp_varS 2 (by decide)) (sp_c _)) (sp_varS 1 (by decide)))) (sp_varS 2 (by decide))) (sp_mk spa_nil)))
abbrev s__law_child_ok : Stmt := top 26
abbrev n__law_child_ok : List Str := ["case", "parents", "child"]
abbrev p__law_child_ok : List Str := ["case", "parents", "child"]
theorem sc__law_child_ok : FnScope n__law_child_ok p__law_child_ok (defScope s__law_child_ok) := ⟨rfl, rfl, rfl, by decide +kernel, rfl, by decide +kernel, by decide +kernel⟩
theorem okG__law_child_ok {f fd} (F : Fun K "_law_child_ok" "_law_child_ok" s__law_child_ok f fd) (T : Txt K mg) : DFn P w K mg base 1 f fd p__law_child_ok (spG 3 false (embS F__law_child_ok)) := by
  refine fun_okG (L := 3) (mu := []) F sc__law_child_ok rfl (by decide) (by decide) fun cdv A outer s H E hr hgd => ?_
  have hu := room64 hr
  have hu5 := room65 hr
  refine ⟨_, (dss_one (ds_ret (de_and (de_rel (od_ne hu) (dv 2) (de_tup da_nil)) (de_one (de_rel (od_in hu5) (de_tup (da_cons (de_ix (dv 2) de_int) (da_cons (de_ix (dv 1) (de_ix (dv 2) de_int)) da_nil))) (de_ix (dv 0) de_int)))))), ?_⟩
  unfold F__law_child_ok
  exact (sps_ret (sp_andV (sp_op os_ne (sp_varS 2 (by decide)) (sp_mk spa_nil)) (sp_op (os_in false) (sp_mk (spa_cons (sp_opV ov_ix (sp_varS 2 (by decide)) (sp_c _)) (spa_cons (sp_opV ov_ix (sp_varS 1 (by decide)) (sp_opV ov_ix (sp_varS 2 (by decide)) (sp_c _))) spa_nil))) (sp_opV ov_ix (sp_varS 0 (by decide)) (sp_c _)))))
abbrev s__law_wished : Stmt := top 27
abbrev n__law_wished : List Str := ["case", "source", "parents", "state"]
abbrev p__law_wished : List Str := ["case", "source"]
theorem sc__law_wished : FnScope n__law_wished p__law_wished (defScope s__law_wished) := ⟨rfl, rfl, rfl, by decide +kernel, rfl, by decide +kernel, by decide +kernel⟩
theorem okG__law_wished {f fd} (F : Fun K "_law_wished" "_law_wished" s__law_wished f fd) (T : Txt K mg) (c__law_child_ok : Callee P w K mg base "_law_child_ok" 1 p__law_child_ok sp__law_child_ok) (c__law_value_ok : Callee P w K mg base "_law_value_ok" 1 p__law_value_ok sp__law_value_ok) : DFn P w K mg base 2 f fd p__law_wished (spG 2 false (embS F__law_wished)) := by
  refine fun_okG (L := 4) (mu := []) F sc__law_wished rfl (by decide) (by decide) fun cdv A outer s H E hr hgd => ?_
  have hu := room64 hr
  have hu5 := room65 hr
  refine ⟨_, (dss_cons (ds_set (i := 2) sc__law_wished.nd rfl (by first | exact Or.inl rfl | exact Or.inr rfl) (de_callTy cd_tuple rfl T.b_tuple (by decide +kernel) (da_cons (de_lc (fin := finF) finF_ok rfl sc__law_wished.nd (di_seq (de_ix (dv 1) de_int)) (blkOk_by (own := [("state", 3)]) (N := n__law_wished) (sc := defScope s__law_wished) (by decide +kernel)) (gsim_name (i := 3) (by decide)) (fun _ _ _ _ _ => pg_name (i := 3) sc__law_wished.nd rfl (by first | exact Or.inl rfl | exact Or.inr rfl)) (fun _ _ _ _ _ => dts_nil) (fun _ _ _ _ _ => (de_ifExp (dt_val (de_call c__law_value_ok hr hgd (da_cons (dv 0) (da_cons (dv 3) da_nil)))) (dv 3) (de_neg de_int)))) da_nil)))
      (dss_one (ds_ret (de_tup (da_cons (dv 2) (da_cons (de_ifExp (dt_val (de_call c__law_child_ok hr hgd (da_cons (dv 0) (da_cons (de_ix (dv 1) de_int) (da_cons (de_ix (dv 1) de_int) da_nil))))) (de_ix (dv 1) de_int) (de_tup da_nil)) da_nil)))))), ?_⟩
  unfold F__law_wished
  exact (sps_seq (sps_set 2 (by decide) (by decide) (sp_cbV cv_tuple (spa_cons (sp_lc (by decide) (spj_seq (sp_opV ov_ix (sp_varS 1 (by decide)) (sp_c _))) (sg_name 3 (by decide) (by decide)) (tq_name 3) spt_yes (sp_if (spt_b (sp_call cs__law_value_ok (spa_cons (sp_varS 0 (by decide)) (spa_cons (sp_varS 3 (by decide)) spa_nil)))) (sp_varS 3 (by decide)) (sp_neg (sp_c _)))) spa_nil)))
  (sps_ret (sp_mk (spa_cons (sp_varS 2 (by decide)) (spa_cons (sp_if (spt_b (sp_call cs__law_child_ok (spa_cons (sp_varS 0 (by decide)) (spa_cons (sp_opV ov_ix (sp_varS 1 (by decide)) (sp_c _)) (spa_cons (sp_opV ov_ix (sp_varS 1 (by decide)) (sp_c _)) spa_nil))))) (sp_opV ov_ix (sp_varS 1 (by decide)) (sp_c _)) (sp_mk spa_nil)) spa_nil)))))
abbrev s__law_is_even : Stmt := top 28
abbrev n__law_is_even : List Str := ["source"]
abbrev p__law_is_even : List Str := ["source"]
theorem sc__law_is_even : FnScope n__law_is_even p__law_is_even (defScope s__law_is_even) := ⟨rfl, rfl, rfl, by decide +kernel, rfl, by decide +kernel, by decide +kernel⟩
theorem okG__law_is_even {f fd} (F : Fun K "_law_is_even" "_law_is_even" s__law_is_even f fd) (T : Txt K mg) : DFn P w K mg base 1 f fd p__law_is_even (spG 1 false (embS F__law_is_even)) := by
  refine fun_okG (L := 1) (mu := []) F sc__law_is_even rfl (by decide) (by decide) fun cdv A outer s H E hr hgd => ?_
  have hu := room64 hr
  have hu5 := room65 hr
  refine ⟨_, (dss_one (ds_ret (de_or (de_rel (od_eq hu) (de_ix (dv 0) de_int) (de_tup da_nil)) (de_one (de_rel (od_ne hu) (de_ix (de_ix (dv 0) de_int) (de_ix (de_ix (dv 0) de_int) de_int)) (de_neg de_int)))))), ?_⟩
  unfold F__law_is_even
  exact (sps_ret (sp_orV (sp_op os_eq (sp_opV ov_ix (sp_varS 0 (by decide)) (sp_c _)) (sp_mk spa_nil)) (sp_op os_ne (sp_opV ov_ix (sp_opV ov_ix (sp_varS 0 (by decide)) (sp_c _)) (sp_opV ov_ix (sp_opV ov_ix (sp_varS 0 (by decide)) (sp_c _)) (sp_c _))) (sp_neg (sp_c _)))))
abbrev s__law_done : Stmt := top 29
abbrev n__law_done : List Str := ["source", "commit", "change", "parents", "child"]
abbrev p__law_done : List Str := ["source", "commit"]
theorem sc__law_done : FnScope n__law_done p__law_done (defScope s__law_done) := ⟨rfl, rfl, rfl, by decide +kernel, rfl, by decide +kernel, by decide +kernel⟩
theorem okG__law_done {f fd} (F : Fun K "_law_done" "_law_done" s__law_done f fd) (T : Txt K mg) : DFn P w K mg base 1 f fd p__law_done (spG 2 false (embS F__law_done)) := by
  refine fun_okG (L := 5) (mu := [3]) F sc__law_done rfl (by decide) (by decide) fun cdv A outer s H E hr hgd => ?_
  have hu := room64 hr
  have hu5 := room65 hr
  refine ⟨_, (dss_cons (ds_par (i := 3) (j := 4) rfl sc__law_done.nd rfl rfl (by decide) rfl rfl (da_cons (de_callTy cd_listM rfl T.b_list (by decide +kernel) (da_cons (de_ix (dv 0) de_int) da_nil)) (da_cons (de_ix (dv 0) de_int) da_nil)) (by rfl))
      (dss_cons (ds_for PassesOwn.never rfl (di_seq (dv 1)) (dg_name (i := 2) (vs := [2]) sc__law_done.nd rfl (by first | exact Or.inl rfl | exact Or.inr rfl) (by decide)) (dss_one (ds_if (dt_rel (od_eq hu) (de_ix (dv 2) de_int) de_str) (dss_one (ds_set (i := 4) sc__law_done.nd rfl (by first | exact Or.inl rfl | exact Or.inr rfl) (de_ix (dv 2) de_int))) (dss_one (ds_setIx (de_ix (dv 2) de_int) (dv 3) (de_ix (dv 2) de_int))))))
      (dss_one (ds_ret (de_tup (da_cons (de_callTy cd_tuple rfl T.b_tuple (by decide +kernel) (da_cons (dv 3) da_nil)) (da_cons (dv 4) da_nil))))))), ?_⟩
  unfold F__law_done
  exact (sps_seq (sps_parLD 3 4 (by decide) (by decide) (by decide) (by decide) (spl_cb cbl_list (spa_cons (sp_opV ov_ix (sp_varS 0 (by decide)) (sp_c _)) spa_nil)) (sp_opV ov_ix (sp_varS 0 (by decide)) (sp_c _)))
  (sps_seq (sps_for (vs := [2]) (spi_seq (sp_varS 1 (by decide))) (sg_name 2 (by decide) (by decide)) (tq_name 2) (sps_if (spt_b (sp_op os_eq (sp_opV ov_ix (sp_varS 2 (by decide)) (sp_c _)) (sp_c _))) (sps_set 4 (by decide) (by decide) (sp_opV ov_ix (sp_varS 2 (by decide)) (sp_c _))) (sps_setIx 3 (by decide) (sp_opV ov_ix (sp_varS 2 (by decide)) (sp_c _)) (sp_opV ov_ix (sp_varS 2 (by decide)) (sp_c _)))))
  (sps_ret (sp_mk (spa_cons (sp_cbV cv_tuple (spa_cons (sp_var 3) spa_nil)) (spa_cons (sp_varS 4 (by decide)) spa_nil))))))
abbrev s__law_commits : Stmt := top 30
abbrev n__law_commits : List Str := ["case", "source", "p", "found", "n", "values", "kinds", "test", "joint", "one", "two", "change", "commit", "state", "kind", "other"]
abbrev p__law_commits : List Str := ["case", "source"]
theorem sc__law_commits : FnScope n__law_commits p__law_commits (defScope s__law_commits) := ⟨rfl, rfl, rfl, by decide +kernel, rfl, by decide +kernel, by decide +kernel⟩
theorem okG__law_commits {f fd} (F : Fun K "_law_commits" "_law_commits" s__law_commits f fd) (T : Txt K mg) (c__law_done : Callee P w K mg base "_law_done" 1 p__law_done sp__law_done) (c__law_is_even : Callee P w K mg base "_law_is_even" 1 p__law_is_even sp__law_is_even) : DFn P w K mg base 2 f fd p__law_commits (spG 2 false (embS F__law_commits)) := by
  refine fun_okG (L := 16) (mu := []) F sc__law_commits rfl (by decide) (by decide) fun cdv A outer s H E hr hgd => ?_
  have hu := room64 hr
  have hu5 := room65 hr
  refine ⟨_, (dss_cons (ds_asg (dv 0) (dg_tup (n := 5) rfl (dgs_cons (dg_name (i := 4) (vs := [4, 5, 6, 7, 8]) sc__law_commits.nd rfl (by first | exact Or.inl rfl | exact Or.inr rfl) (by decide)) (dgs_cons (dg_name (i := 5) (vs := [4, 5, 6, 7, 8]) sc__law_commits.nd rfl (by first | exact Or.inl rfl | exact Or.inr rfl) (by decide)) (dgs_cons (dg_name (i := 6) (vs := [4, 5, 6, 7, 8]) sc__law_commits.nd rfl (by first | exact Or.inl rfl | exact Or.inr rfl) (by decide)) (dgs_cons (dg_name (i := 7) (vs := [4, 5, 6, 7, 8]) sc__law_commits.nd rfl (by first | exact Or.inl rfl | exact Or.inr rfl) (by decide)) (dgs_cons (dg_name (i := 8) (vs := [4, 5, 6, 7, 8]) sc__law_commits.nd rfl (by first | exact Or.inl rfl | exact Or.inr rfl) (by decide)) dgs_nil)))))))
      (dss_cons (ds_par (i := 9) (j := 10) rfl sc__law_commits.nd rfl rfl (by decide) rfl rfl (da_cons (de_lst da_nil) (da_cons (de_bin od_repL (de_lst (da_cons (de_tup (da_cons de_str (da_cons (de_tup da_nil) da_nil))) da_nil)) (de_callTy cd_intB rfl T.b_int (by decide +kernel) (da_cons (de_rel (od_ne hu) (de_ix (dv 1) de_int) (de_tup da_nil)) da_nil))) da_nil)) (by rfl))
      (dss_cons (ds_for PassesOwn.never rfl (di_range1 rfl T.b_range (da_cons (dv 4) da_nil)) (dg_name (i := 2) (vs := [2]) sc__law_commits.nd rfl (by first | exact Or.inl rfl | exact Or.inr rfl) (by decide)) (dss_cons (ds_set (i := 9) sc__law_commits.nd rfl (by first | exact Or.inl rfl | exact Or.inr rfl) (de_bin od_add (dv 9) (de_lc (fin := finF) finF_ok rfl sc__law_commits.nd (di_range2 rfl T.b_range (da_cons (de_neg de_int) (da_cons (dv 5) da_nil))) (blkOk_by (own := [("state", 13)]) (N := n__law_commits) (sc := defScope s__law_commits) (by decide +kernel)) (gsim_name (i := 13) (by decide)) (fun _ _ _ _ _ => pg_name (i := 13) sc__law_commits.nd rfl (by first | exact Or.inl rfl | exact Or.inr rfl)) (fun _ _ _ _ _ => dts_one (dt_rel (od_ne hu) (dv 13) (de_ix (de_ix (dv 1) de_int) (dv 2)))) (fun _ _ _ _ _ => (de_tup (da_cons de_str (da_cons (dv 2) (da_cons (dv 13) da_nil))))))))
      (dss_one (ds_set (i := 10) sc__law_commits.nd rfl (by first | exact Or.inl rfl | exact Or.inr rfl) (de_bin od_add (dv 10) (de_lc (fin := finF) finF_ok rfl sc__law_commits.nd (di_range1 rfl T.b_range (da_cons (dv 6) da_nil)) (blkOk_by (own := [("kind", 14)]) (N := n__law_commits) (sc := defScope s__law_commits) (by decide +kernel)) (gsim_name (i := 14) (by decide)) (fun _ _ _ _ _ => pg_name (i := 14) sc__law_commits.nd rfl (by first | exact Or.inl rfl | exact Or.inr rfl)) (fun _ _ _ _ _ => dts_one (dt_rel (od_ne hu) (de_tup (da_cons (dv 14) (da_cons (dv 2) da_nil))) (de_ix (dv 1) de_int))) (fun _ _ _ _ _ => (de_tup (da_cons de_str (da_cons (de_tup (da_cons (dv 14) (da_cons (dv 2) da_nil))) da_nil))))))))))
      (dss_cons (ds_setLc (i := 3) (fin := finF) finF_ok rfl sc__law_commits.nd rfl rfl (sw_true rfl rfl rfl (by decide +kernel)) (di_seq (de_bin od_add (dv 9) (dv 10))) (blkOk_by (own := [("change", 11)]) (N := n__law_commits) (sc := defScope s__law_commits) (by decide +kernel)) (gsim_name (i := 11) (by decide)) (fun _ _ _ _ _ => pg_name (i := 11) sc__law_commits.nd rfl (by first | exact Or.inl rfl | exact Or.inr rfl)) (fun _ _ _ _ _ => dts_nil) (fun _ _ _ _ _ => (de_tup (da_cons (dv 11) da_nil))))
      (dss_cons (ds_if (dt_val (dv 8)) (dss_one (ds_for PassesOwn.never rfl (di_seq (dv 9)) (dg_name (i := 11) (vs := [11]) sc__law_commits.nd rfl (by first | exact Or.inl rfl | exact Or.inr rfl) (by decide)) (dss_one (ds_set (i := 3) sc__law_commits.nd rfl (by first | exact Or.inl rfl | exact Or.inr rfl) (de_bin od_add (dv 3) (de_lc (fin := finF) finF_ok rfl sc__law_commits.nd (di_seq (dv 10)) (blkOk_by (own := [("other", 15)]) (N := n__law_commits) (sc := defScope s__law_commits) (by decide +kernel)) (gsim_name (i := 15) (by decide)) (fun _ _ _ _ _ => pg_name (i := 15) sc__law_commits.nd rfl (by first | exact Or.inl rfl | exact Or.inr rfl)) (fun _ _ _ _ _ => dts_nil) (fun _ _ _ _ _ => (de_tup (da_cons (dv 11) (da_cons (dv 15) da_nil)))))))))) dss_nil)
      (dss_one (ds_ret (de_callB (cd_sortedS hu) rfl T.b_sorted (by decide +kernel) (da_cons (de_lc (fin := finF) finF_ok rfl sc__law_commits.nd (di_seq (dv 3)) (blkOk_by (own := [("commit", 12)]) (N := n__law_commits) (sc := defScope s__law_commits) (by decide +kernel)) (gsim_name (i := 12) (by decide)) (fun _ _ _ _ _ => pg_name (i := 12) sc__law_commits.nd rfl (by first | exact Or.inl rfl | exact Or.inr rfl)) (fun _ _ _ _ _ => dts_one (dt_val (de_call c__law_is_even hr hgd (da_cons (de_call c__law_done hr hgd (da_cons (dv 1) (da_cons (dv 12) da_nil))) da_nil)))) (fun _ _ _ _ _ => (dv 12))) da_nil))))))))), ?_⟩
  unfold F__law_commits
  exact (sps_seq (sps_asg (vs := [4, 5, 6, 7, 8]) (sg_tup (sg_cons (sg_name 4 (by decide) (by decide)) (sg_cons (sg_name 5 (by decide) (by decide)) (sg_cons (sg_name 6 (by decide) (by decide)) (sg_cons (sg_name 7 (by decide) (by decide)) (sg_cons (sg_name 8 (by decide) (by decide)) sg_nil)))))) (tq_tup (tq_cons (tq_name 4) (tq_cons (tq_name 5) (tq_cons (tq_name 6) (tq_cons (tq_name 7) (tq_cons (tq_name 8) tq_nil)))))) (sp_varS 0 (by decide)))
  (sps_seq (sps_par 9 10 (by decide) (by decide) (by decide) (by decide) (spa_cons (sp_mk spa_nil) (spa_cons (sp_op os_repL (sp_mk (spa_cons (sp_mk (spa_cons (sp_c _) (spa_cons (sp_mk spa_nil) spa_nil))) spa_nil)) (sp_cb cs_int (spa_cons (sp_op os_ne (sp_opV ov_ix (sp_varS 1 (by decide)) (sp_c _)) (sp_mk spa_nil)) spa_nil))) spa_nil)))
  (sps_seq (sps_for (vs := [2]) (spi_rng1 (spa_cons (sp_varS 4 (by decide)) spa_nil)) (sg_name 2 (by decide) (by decide)) (tq_name 2) (sps_seq (sps_set 9 (by decide) (by decide) (sp_opV ov_add (sp_varS 9 (by decide)) (sp_lc (by decide) (SimI.j (spi_rng2 (spa_cons (sp_neg (sp_c _)) (spa_cons (sp_varS 5 (by decide)) spa_nil)))) (sg_name 13 (by decide) (by decide)) (tq_name 13) (spt_b (sp_op os_ne (sp_varS 13 (by decide)) (sp_opV ov_ix (sp_opV ov_ix (sp_varS 1 (by decide)) (sp_c _)) (sp_varS 2 (by decide))))) (sp_mk (spa_cons (sp_c _) (spa_cons (sp_varS 2 (by decide)) (spa_cons (sp_varS 13 (by decide)) spa_nil)))))))
  (sps_set 10 (by decide) (by decide) (sp_opV ov_add (sp_varS 10 (by decide)) (sp_lc (by decide) (SimI.j (spi_rng1 (spa_cons (sp_varS 6 (by decide)) spa_nil))) (sg_name 14 (by decide) (by decide)) (tq_name 14) (spt_b (sp_op os_ne (sp_mk (spa_cons (sp_varS 14 (by decide)) (spa_cons (sp_varS 2 (by decide)) spa_nil))) (sp_opV ov_ix (sp_varS 1 (by decide)) (sp_c _)))) (sp_mk (spa_cons (sp_c _) (spa_cons (sp_mk (spa_cons (sp_varS 14 (by decide)) (spa_cons (sp_varS 2 (by decide)) spa_nil))) spa_nil))))))))
  (sps_seq (sps_set 3 (by decide) (by decide) (sp_lc (by decide) (spj_seq (sp_opV ov_add (sp_varS 9 (by decide)) (sp_varS 10 (by decide)))) (sg_name 11 (by decide) (by decide)) (tq_name 11) spt_yes (sp_mk (spa_cons (sp_varS 11 (by decide)) spa_nil))))
  (sps_seq (sps_if (spt_b (sp_varS 8 (by decide))) (sps_for (vs := [11]) (spi_seq (sp_varS 9 (by decide))) (sg_name 11 (by decide) (by decide)) (tq_name 11) (sps_set 3 (by decide) (by decide) (sp_opV ov_add (sp_varS 3 (by decide)) (sp_lc (by decide) (spj_seq (sp_varS 10 (by decide))) (sg_name 15 (by decide) (by decide)) (tq_name 15) spt_yes (sp_mk (spa_cons (sp_varS 11 (by decide)) (spa_cons (sp_varS 15 (by decide)) spa_nil))))))) sps_next)
  (sps_ret (sp_cb cs_sortS (spa_cons (sp_lc (by decide) (spj_seq (sp_varS 3 (by decide))) (sg_name 12 (by decide) (by decide)) (tq_name 12) (spt_b (sp_call cs__law_is_even (spa_cons (sp_call cs__law_done (spa_cons (sp_varS 1 (by decide)) (spa_cons (sp_varS 12 (by decide)) spa_nil))) spa_nil))) (sp_varS 12 (by decide))) spa_nil))))))))
abbrev s__law_is_source : Stmt := top 31
abbrev n__law_is_source : List Str := ["case", "value", "child", "state"]
abbrev p__law_is_source : List Str := ["case", "value"]
theorem sc__law_is_source : FnScope n__law_is_source p__law_is_source (defScope s__law_is_source) := ⟨rfl, rfl, rfl, by decide +kernel, rfl, by decide +kernel, by decide +kernel⟩
theorem okG__law_is_source {f fd} (F : Fun K "_law_is_source" "_law_is_source" s__law_is_source f fd) (T : Txt K mg) (c__law_is_integer : Callee P w K mg base "_law_is_integer" 1 p__law_is_integer sp__law_is_integer) : DFn P w K mg base 2 f fd p__law_is_source (spG 2 false (embS F__law_is_source)) := by
  refine fun_okG (L := 4) (mu := []) F sc__law_is_source rfl (by decide) (by decide) fun cdv A outer s H E hr hgd => ?_
  have hu := room64 hr
  have hu5 := room65 hr
  refine ⟨_, (dss_cons (ds_if (dt_w (dw_or (dt_not (dt_val (de_isi (t := .tuple) rfl T.b_isinstance rfl T.b_tuple (by decide +kernel) (dv 1)))) (dw_or (dt_rel (od_ne hu) (de_callB cd_len rfl T.b_len (by decide +kernel) (da_cons (dv 1) da_nil)) de_int) (dw_or (dt_not (dt_val (de_isi (t := .tuple) rfl T.b_isinstance rfl T.b_tuple (by decide +kernel) (de_ix (dv 1) de_int)))) (dw_or1 (dt_rel (od_ne hu) (de_callB cd_len rfl T.b_len (by decide +kernel) (da_cons (de_ix (dv 1) de_int) da_nil)) (de_ix (dv 0) de_int))))))) (dss_one (ds_ret de_bl)) dss_nil)
      (dss_cons (ds_if (dt_w (dw_or (dt_rel (od_in hu5) de_bl (de_lc (fin := finF) finF_ok rfl sc__law_is_source.nd (di_seq (de_ix (dv 1) de_int)) (blkOk_by (own := [("state", 3)]) (N := n__law_is_source) (sc := defScope s__law_is_source) (by decide +kernel)) (gsim_name (i := 3) (by decide)) (fun _ _ _ _ _ => pg_name (i := 3) sc__law_is_source.nd rfl (by first | exact Or.inl rfl | exact Or.inr rfl)) (fun _ _ _ _ _ => dts_nil) (fun _ _ _ _ _ => (de_call c__law_is_integer hr hgd (da_cons (dv 3) (da_cons (de_neg de_int) (da_cons (de_bin od_sub (de_ix (dv 0) de_int) de_int) da_nil))))))) (dw_or1 (dt_not (dt_val (de_isi (t := .tuple) rfl T.b_isinstance rfl T.b_tuple (by decide +kernel) (de_ix (dv 1) de_int))))))) (dss_one (ds_ret de_bl)) dss_nil)
      (dss_cons (ds_set (i := 2) sc__law_is_source.nd rfl (by first | exact Or.inl rfl | exact Or.inr rfl) (de_ix (dv 1) de_int))
      (dss_cons (ds_if (dt_rel (od_eq0 hu) (dv 2) (de_tup da_nil)) (dss_one (ds_ret de_bl)) dss_nil)
      (dss_cons (ds_if (dt_w (dw_or (dt_rel (od_ne hu) (de_callB cd_len rfl T.b_len (by decide +kernel) (da_cons (dv 2) da_nil)) de_int) (dw_or1 (dt_not (dt_val (de_call c__law_is_integer hr hgd (da_cons (de_ix (dv 2) de_int) (da_cons de_int (da_cons (de_bin od_sub (de_ix (dv 0) de_int) de_int) da_nil))))))))) (dss_one (ds_ret de_bl)) dss_nil)
      (dss_one (ds_ret (de_and (de_call c__law_is_integer hr hgd (da_cons (de_ix (dv 2) de_int) (da_cons de_int (da_cons (de_bin od_sub (de_ix (dv 0) de_int) de_int) da_nil)))) (de_one (de_rel (od_ne hu) (de_ix (de_ix (dv 1) de_int) (de_ix (dv 2) de_int)) (de_neg de_int))))))))))), ?_⟩
  unfold F__law_is_source
  exact (sps_seq (sps_if (spt_or (spt_not (spt_b (sp_isi1 (sp_varS 1 (by decide))))) (spt_or (spt_b (sp_op os_ne (sp_cbV cv_len (spa_cons (sp_varS 1 (by decide)) spa_nil)) (sp_c _))) (spt_or (spt_not (spt_b (sp_isi1 (sp_opV ov_ix (sp_varS 1 (by decide)) (sp_c _))))) (spt_b (sp_op os_ne (sp_cbV cv_len (spa_cons (sp_opV ov_ix (sp_varS 1 (by decide)) (sp_c _)) spa_nil)) (sp_opV ov_ix (sp_varS 0 (by decide)) (sp_c _))))))) (sps_ret (sp_c _)) sps_next)
  (sps_seq (sps_if (spt_or (spt_b (sp_op (os_in false) (sp_c _) (sp_lc (by decide) (spj_seq (sp_opV ov_ix (sp_varS 1 (by decide)) (sp_c _))) (sg_name 3 (by decide) (by decide)) (tq_name 3) spt_yes (sp_call cs__law_is_integer (spa_cons (sp_varS 3 (by decide)) (spa_cons (sp_neg (sp_c _)) (spa_cons (sp_op os_sub (sp_opV ov_ix (sp_varS 0 (by decide)) (sp_c _)) (sp_c _)) spa_nil))))))) (spt_not (spt_b (sp_isi1 (sp_opV ov_ix (sp_varS 1 (by decide)) (sp_c _)))))) (sps_ret (sp_c _)) sps_next)
  (sps_seq (sps_set 2 (by decide) (by decide) (sp_opV ov_ix (sp_varS 1 (by decide)) (sp_c _)))
  (sps_seq (sps_if (spt_b (sp_op os_eq0 (sp_varS 2 (by decide)) (sp_mk spa_nil))) (sps_ret (sp_c _)) sps_next)
  (sps_seq (sps_if (spt_or (spt_b (sp_op os_ne (sp_cbV cv_len (spa_cons (sp_varS 2 (by decide)) spa_nil)) (sp_c _))) (spt_not (spt_b (sp_call cs__law_is_integer (spa_cons (sp_opV ov_ix (sp_varS 2 (by decide)) (sp_c _)) (spa_cons (sp_c _) (spa_cons (sp_op os_sub (sp_opV ov_ix (sp_varS 0 (by decide)) (sp_c _)) (sp_c _)) spa_nil))))))) (sps_ret (sp_c _)) sps_next)
  (sps_ret (sp_andV (sp_call cs__law_is_integer (spa_cons (sp_opV ov_ix (sp_varS 2 (by decide)) (sp_c _)) (spa_cons (sp_c _) (spa_cons (sp_op os_sub (sp_opV ov_ix (sp_varS 0 (by decide)) (sp_c _)) (sp_c _)) spa_nil)))) (sp_op os_ne (sp_opV ov_ix (sp_opV ov_ix (sp_varS 1 (by decide)) (sp_c _)) (sp_opV ov_ix (sp_varS 2 (by decide)) (sp_c _))) (sp_neg (sp_c _))))))))))
abbrev s__law_draw_source : Stmt := top 32
abbrev n__law_draw_source : List Str := ["pen", "case", "source", "again"]
abbrev p__law_draw_source : List Str := ["pen", "case"]
theorem sc__law_draw_source : FnScope n__law_draw_source p__law_draw_source (defScope s__law_draw_source) := ⟨rfl, rfl, rfl, by decide +kernel, rfl, by decide +kernel, by decide +kernel⟩
theorem okG__law_draw_source {f fd} (F : Fun K "_law_draw_source" "_law_draw_source" s__law_draw_source f fd) (T : Txt K mg) (c__law_commits : Callee P w K mg base "_law_commits" 2 p__law_commits sp__law_commits) (c__law_done : Callee P w K mg base "_law_done" 1 p__law_done sp__law_done) (c__law_one_of : Callee P w K mg base "_law_one_of" 3 p__law_one_of sp__law_one_of) (c__law_take : Callee P w K mg base "_law_take" 2 p__law_take sp__law_take) : DFn P w K mg base 4 f fd p__law_draw_source (spG 2 true U__law_draw_source) := by
  refine fun_okG (L := 4) (mu := []) F sc__law_draw_source rfl (by decide) (by decide) fun cdv A outer s H E hr hgd => ?_
  have hu := room64 hr
  have hu5 := room65 hr
  refine ⟨_, (dss_cons (ds_set (i := 2) sc__law_draw_source.nd rfl (by first | exact Or.inl rfl | exact Or.inr rfl) (de_tup (da_cons (de_bin od_repT (de_tup (da_cons (de_neg de_int) da_nil)) (de_ix (dv 1) de_int)) (da_cons (de_tup da_nil) da_nil))))
      (dss_cons (ds_for PassesOwn.never rfl (di_range1 rfl T.b_range (da_cons (de_call c__law_take hr hgd (da_cons (dv 0) (da_cons de_int da_nil))) da_nil)) (dg_name (i := 3) (vs := [3]) sc__law_draw_source.nd rfl (by first | exact Or.inl rfl | exact Or.inr rfl) (by decide)) (dss_one (ds_set (i := 2) sc__law_draw_source.nd rfl (by first | exact Or.inl rfl | exact Or.inr rfl) (de_call c__law_done hr hgd (da_cons (dv 2) (da_cons (de_call c__law_one_of hr hgd (da_cons (dv 0) (da_cons (de_call c__law_commits hr hgd (da_cons (dv 1) (da_cons (dv 2) da_nil))) da_nil))) da_nil))))))
      (dss_one (ds_ret (dv 2))))), ?_⟩
  unfold U__law_draw_source
  exact (ss_seq (ss_set 2 (by decide) (by decide) (sp_mk (spa_cons (sp_op os_repT (sp_mk (spa_cons (sp_neg (sp_c _)) spa_nil)) (sp_opV ov_ix (sp_varS 1 (by decide)) (sp_c _))) (spa_cons (sp_mk spa_nil) spa_nil))))
  (ss_seq (ss_for (vs := [3]) (si_rng1 (sa_cons (se_callW cw__law_take (sa_cons (se_varS 0 (by decide)) (spa_cons (sp_c _) spa_nil))) sa_nil)) (sg_name 3 (by decide) (by decide)) (ss_set 2 (by decide) (by decide) (se_call cs__law_done (sa_cons (sp_varS 2 (by decide)) (sa_cons (se_callW cw__law_one_of (sa_cons (se_varS 0 (by decide)) (spa_cons (sp_call cs__law_commits (spa_cons (sp_varS 1 (by decide)) (spa_cons (sp_varS 2 (by decide)) spa_nil))) spa_nil))) sa_nil)))))
  (ss_ret (sp_varS 2 (by decide)))))
abbrev s__law_near : Stmt := top 33
abbrev n__law_near : List Str := ["pen", "case", "source", "parents", "child", "p", "way", "some"]
abbrev p__law_near : List Str := ["pen", "case", "source"]
theorem sc__law_near : FnScope n__law_near p__law_near (defScope s__law_near) := ⟨rfl, rfl, rfl, by decide +kernel, rfl, by decide +kernel, by decide +kernel⟩
theorem okG__law_near {f fd} (F : Fun K "_law_near" "_law_near" s__law_near f fd) (T : Txt K mg) (c__law_bent : Callee P w K mg base "_law_bent" 25 p__law_bent sp__law_bent) (c__law_one_of : Callee P w K mg base "_law_one_of" 3 p__law_one_of sp__law_one_of) (c__law_take : Callee P w K mg base "_law_take" 2 p__law_take sp__law_take) : DFn P w K mg base 26 f fd p__law_near (spG 3 true U__law_near) := by
  refine fun_okG (L := 8) (mu := []) F sc__law_near rfl (by decide) (by decide) fun cdv A outer s H E hr hgd => ?_
  have hu := room64 hr
  have hu5 := room65 hr
  refine ⟨_, (dss_cons (ds_asg (dv 2) (dg_tup (n := 2) rfl (dgs_cons (dg_name (i := 3) (vs := [3, 4]) sc__law_near.nd rfl (by first | exact Or.inl rfl | exact Or.inr rfl) (by decide)) (dgs_cons (dg_name (i := 4) (vs := [3, 4]) sc__law_near.nd rfl (by first | exact Or.inl rfl | exact Or.inr rfl) (by decide)) dgs_nil))))
      (dss_cons (ds_par (i := 5) (j := 6) rfl sc__law_near.nd rfl rfl (by decide) rfl rfl (da_cons (de_call c__law_take hr hgd (da_cons (dv 0) (da_cons (de_ix (dv 1) de_int) da_nil))) (da_cons (de_call c__law_take hr hgd (da_cons (dv 0) (da_cons de_int da_nil))) da_nil)) (by rfl))
      (dss_cons (ds_if (dt_rel od_lt (dv 6) de_int) (dss_cons (ds_set (i := 7) sc__law_near.nd rfl (by first | exact Or.inl rfl | exact Or.inr rfl) (de_lst (da_cons (de_neg de_int) (da_cons (de_neg de_int) (da_cons (de_ix (dv 1) de_int) (da_cons de_int (da_cons de_bl (da_cons de_non da_nil))))))))
      (dss_one (ds_ret (de_tup (da_cons (de_bin od_add (de_bin od_add (de_slice (dv 3) do_none (do_some (dv 5))) (de_tup (da_cons (de_call c__law_one_of hr hgd (da_cons (dv 0) (da_cons (dv 7) da_nil))) da_nil))) (de_slice (dv 3) (do_some (de_bin od_add (dv 5) de_int)) do_none)) (da_cons (dv 4) da_nil)))))) dss_nil)
      (dss_cons (ds_if (dt_rel od_lt (dv 6) de_int) (dss_cons (ds_set (i := 7) sc__law_near.nd rfl (by first | exact Or.inl rfl | exact Or.inr rfl) (de_lst (da_cons (de_tup da_nil) (da_cons (de_lst da_nil) (da_cons (de_tup (da_cons de_int (da_cons de_int da_nil))) (da_cons (de_tup (da_cons de_int (da_cons (dv 5) da_nil))) (da_cons (de_tup (da_cons (de_ix (dv 1) de_int) (da_cons (dv 5) da_nil))) (da_cons (de_tup (da_cons de_int (da_cons (de_ix (dv 1) de_int) da_nil))) (da_cons (de_tup (da_cons (de_neg de_int) (da_cons de_int da_nil))) (da_cons (de_tup (da_cons de_int (da_cons (de_neg de_int) da_nil))) (da_cons (de_tup (da_cons de_bl (da_cons de_int da_nil))) (da_cons (de_tup (da_cons de_int (da_cons de_int (da_cons de_int da_nil)))) (da_cons de_non da_nil)))))))))))))
      (dss_one (ds_ret (de_tup (da_cons (dv 3) (da_cons (de_call c__law_one_of hr hgd (da_cons (dv 0) (da_cons (dv 7) da_nil))) da_nil)))))) dss_nil)
      (dss_cons (ds_if (dt_rel (od_eq hu) (dv 6) de_int) (dss_cons (ds_set (i := 7) sc__law_near.nd rfl (by first | exact Or.inl rfl | exact Or.inr rfl) (de_lst (da_cons (de_tup (da_cons (dv 3) da_nil)) (da_cons (de_tup (da_cons (dv 4) (da_cons (dv 3) da_nil))) (da_cons (de_lst (da_cons (dv 3) (da_cons (dv 4) da_nil))) (da_cons (de_tup (da_cons (de_callTy cd_list rfl T.b_list (by decide +kernel) (da_cons (dv 3) da_nil)) (da_cons (dv 4) da_nil))) (da_cons (de_tup (da_cons (de_slice (dv 3) (do_some de_int) do_none) (da_cons (dv 4) da_nil))) da_nil)))))))
      (dss_one (ds_ret (de_call c__law_one_of hr hgd (da_cons (dv 0) (da_cons (dv 7) da_nil)))))) dss_nil)
      (dss_one (ds_ret (de_call c__law_bent hr hgd (da_cons (dv 0) (da_cons (dv 2) da_nil)))))))))), ?_⟩
  unfold U__law_near
  exact (ss_seq (ss_asg (vs := [3, 4]) (sg_tup (sg_cons (sg_name 3 (by decide) (by decide)) (sg_cons (sg_name 4 (by decide) (by decide)) sg_nil))) (sp_varS 2 (by decide)))
  (ss_seq (ss_par 5 6 (by decide) (by decide) (by decide) (by decide) (sa_cons (se_callW cw__law_take (sa_cons (se_varS 0 (by decide)) (spa_cons (sp_opV ov_ix (sp_varS 1 (by decide)) (sp_c _)) spa_nil))) (sa_cons (se_callW cw__law_take (sa_cons (se_varS 0 (by decide)) (spa_cons (sp_c _) spa_nil))) sa_nil)))
  (ss_seq (ss_if (spt_b (sp_op os_lt (sp_varS 6 (by decide)) (sp_c _))) (ss_seq (ss_set 7 (by decide) (by decide) (sp_mk (spa_cons (sp_neg (sp_c _)) (spa_cons (sp_neg (sp_c _)) (spa_cons (sp_opV ov_ix (sp_varS 1 (by decide)) (sp_c _)) (spa_cons (sp_c _) (spa_cons (sp_c _) (spa_cons (sp_c _) spa_nil))))))))
  (ss_ret (se_mk (sa_cons (se_opV ov_add (se_opV ov_add (sp_sl (sp_varS 3 (by decide)) so_no (so_part (sp_varS 5 (by decide)))) (se_mk (sa_cons (se_callW cw__law_one_of (sa_cons (se_varS 0 (by decide)) (spa_cons (sp_varS 7 (by decide)) spa_nil))) sa_nil))) (sp_sl (sp_varS 3 (by decide)) (so_part (sp_opV ov_add (sp_varS 5 (by decide)) (sp_c _))) so_no)) (spa_cons (sp_varS 4 (by decide)) spa_nil))))) ss_next)
  (ss_seq (ss_if (spt_b (sp_op os_lt (sp_varS 6 (by decide)) (sp_c _))) (ss_seq (ss_set 7 (by decide) (by decide) (sp_mk (spa_cons (sp_mk spa_nil) (spa_cons (sp_mk spa_nil) (spa_cons (sp_mk (spa_cons (sp_c _) (spa_cons (sp_c _) spa_nil))) (spa_cons (sp_mk (spa_cons (sp_c _) (spa_cons (sp_varS 5 (by decide)) spa_nil))) (spa_cons (sp_mk (spa_cons (sp_opV ov_ix (sp_varS 1 (by decide)) (sp_c _)) (spa_cons (sp_varS 5 (by decide)) spa_nil))) (spa_cons (sp_mk (spa_cons (sp_c _) (spa_cons (sp_opV ov_ix (sp_varS 1 (by decide)) (sp_c _)) spa_nil))) (spa_cons (sp_mk (spa_cons (sp_neg (sp_c _)) (spa_cons (sp_c _) spa_nil))) (spa_cons (sp_mk (spa_cons (sp_c _) (spa_cons (sp_neg (sp_c _)) spa_nil))) (spa_cons (sp_mk (spa_cons (sp_c _) (spa_cons (sp_c _) spa_nil))) (spa_cons (sp_mk (spa_cons (sp_c _) (spa_cons (sp_c _) (spa_cons (sp_c _) spa_nil)))) (spa_cons (sp_c _) spa_nil)))))))))))))
  (ss_ret (se_mk (sa_cons (sp_varS 3 (by decide)) (sa_cons (se_callW cw__law_one_of (sa_cons (se_varS 0 (by decide)) (spa_cons (sp_varS 7 (by decide)) spa_nil))) sa_nil))))) ss_next)
  (ss_seq (ss_if (spt_b (sp_op os_eq (sp_varS 6 (by decide)) (sp_c _))) (ss_seq (ss_set 7 (by decide) (by decide) (sp_mk (spa_cons (sp_mk (spa_cons (sp_varS 3 (by decide)) spa_nil)) (spa_cons (sp_mk (spa_cons (sp_varS 4 (by decide)) (spa_cons (sp_varS 3 (by decide)) spa_nil))) (spa_cons (sp_mk (spa_cons (sp_varS 3 (by decide)) (spa_cons (sp_varS 4 (by decide)) spa_nil))) (spa_cons (sp_mk (spa_cons (sp_cbV cv_list (spa_cons (sp_varS 3 (by decide)) spa_nil)) (spa_cons (sp_varS 4 (by decide)) spa_nil))) (spa_cons (sp_mk (spa_cons (sp_sl (sp_varS 3 (by decide)) (so_part (sp_c _)) so_no) (spa_cons (sp_varS 4 (by decide)) spa_nil))) spa_nil)))))))
  (ss_ret (se_callW cw__law_one_of (sa_cons (se_varS 0 (by decide)) (spa_cons (sp_varS 7 (by decide)) spa_nil))))) ss_next)
  (ss_ret (se_callW cw__law_bent (sa_cons (se_varS 0 (by decide)) (spa_cons (sp_varS 2 (by decide)) spa_nil)))))))))
abbrev s_law : Stmt := top 34
abbrev n_law : List Str := ["script", "pen", "turn", "case", "source", "text", "value", "again"]
abbrev p_law : List Str := ["script"]
theorem sc_law : FnScope n_law p_law (defScope s_law) := ⟨rfl, rfl, rfl, by decide +kernel, rfl, by decide +kernel, by decide +kernel⟩
theorem ok_law {f fd} (F : Fun K "law" "law" s_law f fd) (T : Txt K mg) (c__law_child_ok : Callee P w K mg base "_law_child_ok" 1 p__law_child_ok sp__law_child_ok) (c__law_draw_case : Callee P w K mg base "_law_draw_case" 4 p__law_draw_case sp__law_draw_case) (c__law_draw_source : Callee P w K mg base "_law_draw_source" 4 p__law_draw_source sp__law_draw_source) (c__law_is_source : Callee P w K mg base "_law_is_source" 2 p__law_is_source sp__law_is_source) (c__law_near : Callee P w K mg base "_law_near" 26 p__law_near sp__law_near) (c__law_open : Callee P w K mg base "_law_open" 1 p__law_open sp__law_open) (c__law_same : Callee P w K mg base "_law_same" 21 p__law_same sp__law_same) (c__law_wished : Callee P w K mg base "_law_wished" 2 p__law_wished sp__law_wished) (c_child_passes : Callee P w K mg base "child_passes" 3 p_child_passes sp_child_passes) (c_is_source : Callee P w K mg base "is_source" 5 p_is_source sp_is_source) (c_wished : Callee P w K mg base "wished" 4 p_wished sp_wished) (hm : ∀ ns : List Int, ns.length ≤ 63 → U_law lawV (st0 ns) 0) : DFn P w K mg base 27 f fd p_law sp_law := by
  refine fun_okD F sc_law (fun ds M Q h => ?_) fun cdv A outer s H E hr hgd ds M Q h => ?_
  · obtain ⟨ns, rfl, _⟩ := h; rfl
  · obtain ⟨ns, rfl, hl, k⟩ := h
    have hu := room64 hr
    have hu5 := room65 hr
    refine ⟨_, (dss_cons (ds_set (i := 1) sc_law.nd rfl (by first | exact Or.inl rfl | exact Or.inr rfl) (de_call c__law_open hr hgd (da_cons (dv 0) da_nil)))
      (dss_cons (ds_for PassesOwn.never rfl (di_range1 rfl T.b_range (da_cons de_int da_nil)) (dg_name (i := 2) (vs := [2]) sc_law.nd rfl (by first | exact Or.inl rfl | exact Or.inr rfl) (by decide)) (dss_cons (ds_set (i := 3) sc_law.nd rfl (by first | exact Or.inl rfl | exact Or.inr rfl) (de_call c__law_draw_case hr hgd (da_cons (dv 1) (da_cons (de_lst (da_cons (de_tup (da_cons de_int (da_cons de_int (da_cons de_int da_nil)))) (da_cons (de_tup (da_cons de_int (da_cons de_int (da_cons de_int da_nil)))) (da_cons (de_tup (da_cons de_int (da_cons de_int (da_cons de_int da_nil)))) (da_cons (de_tup (da_cons de_int (da_cons de_int (da_cons de_int da_nil)))) (da_cons (de_tup (da_cons de_int (da_cons de_int (da_cons de_int da_nil)))) (da_cons (de_tup (da_cons de_int (da_cons de_int (da_cons de_int da_nil)))) da_nil))))))) da_nil))))
      (dss_cons (ds_set (i := 4) sc_law.nd rfl (by first | exact Or.inl rfl | exact Or.inr rfl) (de_call c__law_draw_source hr hgd (da_cons (dv 1) (da_cons (dv 3) da_nil))))
      (dss_cons (ds_set (i := 5) sc_law.nd rfl (by first | exact Or.inl rfl | exact Or.inr rfl) (de_callB (cd_repr hgd hu) rfl T.b_repr (by decide +kernel) (da_cons (de_tup (da_cons (dv 3) (da_cons (dv 4) da_nil))) da_nil)))
      (dss_cons (ds_if (dt_not (dt_val (de_call c__law_same hr hgd (da_cons (de_call c_child_passes hr hgd (da_cons (dv 3) (da_cons (dv 4) da_nil))) (da_cons (de_call c__law_child_ok hr hgd (da_cons (dv 3) (da_cons (de_ix (dv 4) de_int) (da_cons (de_ix (dv 4) de_int) da_nil)))) da_nil))))) (dss_one (ds_ret de_bl)) dss_nil)
      (dss_cons (ds_if (dt_w (dw_or (dt_not (dt_val (de_call c__law_same hr hgd (da_cons (de_call c_wished hr hgd (da_cons (dv 3) (da_cons (dv 4) da_nil))) (da_cons (de_call c__law_wished hr hgd (da_cons (dv 3) (da_cons (dv 4) da_nil))) da_nil))))) (dw_or1 (dt_rel (od_ne hu) (de_callB (cd_repr hgd hu) rfl T.b_repr (by decide +kernel) (da_cons (de_tup (da_cons (dv 3) (da_cons (dv 4) da_nil))) da_nil)) (dv 5))))) (dss_one (ds_ret de_bl)) dss_nil)
      (dss_one (ds_for PassesOwn.never rfl (di_seq (de_bin od_add (de_lst (da_cons (dv 4) (da_cons de_non (da_cons (de_tup da_nil) (da_cons de_dct0 da_nil))))) (de_lc (fin := finF) finF_ok rfl sc_law.nd (di_range1 rfl T.b_range (da_cons de_int da_nil)) (blkOk_by (own := [("again", 7)]) (N := n_law) (sc := defScope s_law) (by decide +kernel)) (gsim_name (i := 7) (by decide)) (fun _ _ _ _ _ => pg_name (i := 7) sc_law.nd rfl (by first | exact Or.inl rfl | exact Or.inr rfl)) (fun _ _ _ _ _ => dts_nil) (fun _ _ _ _ _ => (de_call c__law_near hr hgd (da_cons (dv 1) (da_cons (dv 3) (da_cons (dv 4) da_nil)))))))) (dg_name (i := 6) (vs := [6]) sc_law.nd rfl (by first | exact Or.inl rfl | exact Or.inr rfl) (by decide)) (dss_cons (ds_set (i := 5) sc_law.nd rfl (by first | exact Or.inl rfl | exact Or.inr rfl) (de_callB (cd_repr hgd hu) rfl T.b_repr (by decide +kernel) (da_cons (dv 6) da_nil)))
      (dss_one (ds_if (dt_w (dw_or (dt_not (dt_val (de_call c__law_same hr hgd (da_cons (de_call c_is_source hr hgd (da_cons (dv 3) (da_cons (dv 6) da_nil))) (da_cons (de_call c__law_is_source hr hgd (da_cons (dv 3) (da_cons (dv 6) da_nil))) da_nil))))) (dw_or1 (dt_rel (od_ne hu) (de_callB (cd_repr hgd hu) rfl T.b_repr (by decide +kernel) (da_cons (dv 6) da_nil)) (dv 5))))) (dss_one (ds_ret de_bl)) dss_nil)))))))))))
      (dss_one (ds_ret de_bl)))), ?_⟩
    refine law_start (L := 8) (mu := []) (U := U_law) ?_ rfl (by decide) (by decide) (by decide) hl (fun M Q h => ⟨ns, rfl, hl, h⟩) k (hm ns hl)
    unfold U_law
    exact (ss_seq (ss_for (vs := [2]) (spi_rng1 (spa_cons (sp_c _) spa_nil)) (sg_name 2 (by decide) (by decide)) (ss_seq (ss_set 3 (by decide) (by decide) (se_callW cw__law_draw_case (sa_cons (se_varS 1 (by decide)) (spa_cons (sp_mk (spa_cons (sp_mk (spa_cons (sp_c _) (spa_cons (sp_c _) (spa_cons (sp_c _) spa_nil)))) (spa_cons (sp_mk (spa_cons (sp_c _) (spa_cons (sp_c _) (spa_cons (sp_c _) spa_nil)))) (spa_cons (sp_mk (spa_cons (sp_c _) (spa_cons (sp_c _) (spa_cons (sp_c _) spa_nil)))) (spa_cons (sp_mk (spa_cons (sp_c _) (spa_cons (sp_c _) (spa_cons (sp_c _) spa_nil)))) (spa_cons (sp_mk (spa_cons (sp_c _) (spa_cons (sp_c _) (spa_cons (sp_c _) spa_nil)))) (spa_cons (sp_mk (spa_cons (sp_c _) (spa_cons (sp_c _) (spa_cons (sp_c _) spa_nil)))) spa_nil))))))) spa_nil))))
  (ss_seq (ss_set 4 (by decide) (by decide) (se_callW cw__law_draw_source (sa_cons (se_varS 1 (by decide)) (spa_cons (sp_varS 3 (by decide)) spa_nil))))
  (ss_seq (ss_set 5 (by decide) (by decide) (sp_cb cs_repr (spa_cons (sp_mk (spa_cons (sp_varS 3 (by decide)) (spa_cons (sp_varS 4 (by decide)) spa_nil))) spa_nil)))
  (ss_seq (ss_if (spt_not (spt_b (sp_callV cv__law_same (spa_cons (sp_call cs_child_passes (spa_cons (sp_varS 3 (by decide)) (spa_cons (sp_varS 4 (by decide)) spa_nil))) (spa_cons (sp_call cs__law_child_ok (spa_cons (sp_varS 3 (by decide)) (spa_cons (sp_opV ov_ix (sp_varS 4 (by decide)) (sp_c _)) (spa_cons (sp_opV ov_ix (sp_varS 4 (by decide)) (sp_c _)) spa_nil)))) spa_nil))))) (ss_ret (sp_c _)) ss_next)
  (ss_seq (ss_if (spt_or (spt_not (spt_b (sp_callV cv__law_same (spa_cons (sp_call cs_wished (spa_cons (sp_varS 3 (by decide)) (spa_cons (sp_varS 4 (by decide)) spa_nil))) (spa_cons (sp_call cs__law_wished (spa_cons (sp_varS 3 (by decide)) (spa_cons (sp_varS 4 (by decide)) spa_nil))) spa_nil))))) (spt_b (sp_op os_ne (sp_cb cs_repr (spa_cons (sp_mk (spa_cons (sp_varS 3 (by decide)) (spa_cons (sp_varS 4 (by decide)) spa_nil))) spa_nil)) (sp_varS 5 (by decide))))) (ss_ret (sp_c _)) ss_next)
  (ss_for (vs := [6]) (si_seq (se_opV ov_add (sp_mk (spa_cons (sp_varS 4 (by decide)) (spa_cons (sp_c _) (spa_cons (sp_mk spa_nil) (spa_cons (sp_c _) spa_nil))))) (se_lc (by decide) (SimI.j (spi_rng1 (spa_cons (sp_c _) spa_nil))) (sg_name 7 (by decide) (by decide)) st_yes (se_callW cw__law_near (sa_cons (se_varS 1 (by decide)) (spa_cons (sp_varS 3 (by decide)) (spa_cons (sp_varS 4 (by decide)) spa_nil))))))) (sg_name 6 (by decide) (by decide)) (ss_seq (ss_set 5 (by decide) (by decide) (sp_cb cs_repr (spa_cons (sp_varS 6 (by decide)) spa_nil)))
  (ss_if (spt_or (spt_not (spt_b (sp_callV cv__law_same (spa_cons (sp_call cs_is_source (spa_cons (sp_varS 3 (by decide)) (spa_cons (sp_varS 6 (by decide)) spa_nil))) (spa_cons (sp_call cs__law_is_source (spa_cons (sp_varS 3 (by decide)) (spa_cons (sp_varS 6 (by decide)) spa_nil))) spa_nil))))) (spt_b (sp_op os_ne (sp_cb cs_repr (spa_cons (sp_varS 6 (by decide)) spa_nil)) (sp_varS 5 (by decide))))) (ss_ret (sp_c _)) ss_next)))))))))
  (ss_ret (sp_c _)))
end
theorem all_mk {l : PySem.W.OpenLaw} {w : World} {K : PySem.W.Frag} {h : Heap} {mg : Str → Option Value} {fa : Addr} (X : K.In h) (G : h.Ns mainGlobals mg) (hfa : mg "law" = some (.ref fa))
    {f_is_integer : Addr} {od_is_integer an_is_integer : Option Addr} {sl_is_integer : Array (Option Value)} {oc_is_integer kV_is_integer dc_is_integer pm_is_integer cd_is_integer ct_is_integer : Value}
    {f_is_within : Addr} {od_is_within an_is_within : Option Addr} {sl_is_within : Array (Option Value)} {oc_is_within kV_is_within dc_is_within pm_is_within cd_is_within ct_is_within : Value}
    {f_value_passes : Addr} {od_value_passes an_value_passes : Option Addr} {sl_value_passes : Array (Option Value)} {oc_value_passes kV_value_passes dc_value_passes pm_value_passes cd_value_passes ct_value_passes : Value}
    {f_pair_passes : Addr} {od_pair_passes an_pair_passes : Option Addr} {sl_pair_passes : Array (Option Value)} {oc_pair_passes kV_pair_passes dc_pair_passes pm_pair_passes cd_pair_passes ct_pair_passes : Value}
    {f_is_parent_state : Addr} {od_is_parent_state an_is_parent_state : Option Addr} {sl_is_parent_state : Array (Option Value)} {oc_is_parent_state kV_is_parent_state dc_is_parent_state pm_is_parent_state cd_is_parent_state ct_is_parent_state : Value}
    {f_is_child_state : Addr} {od_is_child_state an_is_child_state : Option Addr} {sl_is_child_state : Array (Option Value)} {oc_is_child_state kV_is_child_state dc_is_child_state pm_is_child_state cd_is_child_state ct_is_child_state : Value}
    {f_are_states : Addr} {od_are_states an_are_states : Option Addr} {sl_are_states : Array (Option Value)} {oc_are_states kV_are_states dc_are_states pm_are_states cd_are_states ct_are_states : Value}
    {f_is_source : Addr} {od_is_source an_is_source : Option Addr} {sl_is_source : Array (Option Value)} {oc_is_source kV_is_source dc_is_source pm_is_source cd_is_source ct_is_source : Value}
    {f_state_passes : Addr} {od_state_passes an_state_passes : Option Addr} {sl_state_passes : Array (Option Value)} {oc_state_passes kV_state_passes dc_state_passes pm_state_passes cd_state_passes ct_state_passes : Value}
    {f_child_passes : Addr} {od_child_passes an_child_passes : Option Addr} {sl_child_passes : Array (Option Value)} {oc_child_passes kV_child_passes dc_child_passes pm_child_passes cd_child_passes ct_child_passes : Value}
    {f_wished : Addr} {od_wished an_wished : Option Addr} {sl_wished : Array (Option Value)} {oc_wished kV_wished dc_wished pm_wished cd_wished ct_wished : Value}
    {f__law_open : Addr} {od__law_open an__law_open : Option Addr} {sl__law_open : Array (Option Value)} {oc__law_open kV__law_open dc__law_open pm__law_open cd__law_open ct__law_open : Value}
    {f__law_spread : Addr} {od__law_spread an__law_spread : Option Addr} {sl__law_spread : Array (Option Value)} {oc__law_spread kV__law_spread dc__law_spread pm__law_spread cd__law_spread ct__law_spread : Value}
    {f__law_take : Addr} {od__law_take an__law_take : Option Addr} {sl__law_take : Array (Option Value)} {oc__law_take kV__law_take dc__law_take pm__law_take cd__law_take ct__law_take : Value}
    {f__law_same : Addr} {od__law_same an__law_same : Option Addr} {sl__law_same : Array (Option Value)} {oc__law_same kV__law_same dc__law_same pm__law_same cd__law_same ct__law_same : Value}
    {f__law_one_of : Addr} {od__law_one_of an__law_one_of : Option Addr} {sl__law_one_of : Array (Option Value)} {oc__law_one_of kV__law_one_of dc__law_one_of pm__law_one_of cd__law_one_of ct__law_one_of : Value}
    {f__law_is_integer : Addr} {od__law_is_integer an__law_is_integer : Option Addr} {sl__law_is_integer : Array (Option Value)} {oc__law_is_integer kV__law_is_integer dc__law_is_integer pm__law_is_integer cd__law_is_integer ct__law_is_integer : Value}
    {f__law_odd : Addr} {od__law_odd an__law_odd : Option Addr} {sl__law_odd : Array (Option Value)} {oc__law_odd kV__law_odd dc__law_odd pm__law_odd cd__law_odd ct__law_odd : Value}
    {f__law_bent : Addr} {od__law_bent an__law_bent : Option Addr} {sl__law_bent : Array (Option Value)} {oc__law_bent kV__law_bent dc__law_bent pm__law_bent cd__law_bent ct__law_bent : Value}
    {f__law_draw_test : Addr} {od__law_draw_test an__law_draw_test : Option Addr} {sl__law_draw_test : Array (Option Value)} {oc__law_draw_test kV__law_draw_test dc__law_draw_test pm__law_draw_test cd__law_draw_test ct__law_draw_test : Value}
    {f__law_draw_case : Addr} {od__law_draw_case an__law_draw_case : Option Addr} {sl__law_draw_case : Array (Option Value)} {oc__law_draw_case kV__law_draw_case dc__law_draw_case pm__law_draw_case cd__law_draw_case ct__law_draw_case : Value}
    {f__law_value_ok : Addr} {od__law_value_ok an__law_value_ok : Option Addr} {sl__law_value_ok : Array (Option Value)} {oc__law_value_ok kV__law_value_ok dc__law_value_ok pm__law_value_ok cd__law_value_ok ct__law_value_ok : Value}
    {f__law_child_ok : Addr} {od__law_child_ok an__law_child_ok : Option Addr} {sl__law_child_ok : Array (Option Value)} {oc__law_child_ok kV__law_child_ok dc__law_child_ok pm__law_child_ok cd__law_child_ok ct__law_child_ok : Value}
    {f__law_wished : Addr} {od__law_wished an__law_wished : Option Addr} {sl__law_wished : Array (Option Value)} {oc__law_wished kV__law_wished dc__law_wished pm__law_wished cd__law_wished ct__law_wished : Value}
    {f__law_is_even : Addr} {od__law_is_even an__law_is_even : Option Addr} {sl__law_is_even : Array (Option Value)} {oc__law_is_even kV__law_is_even dc__law_is_even pm__law_is_even cd__law_is_even ct__law_is_even : Value}
    {f__law_done : Addr} {od__law_done an__law_done : Option Addr} {sl__law_done : Array (Option Value)} {oc__law_done kV__law_done dc__law_done pm__law_done cd__law_done ct__law_done : Value}
    {f__law_commits : Addr} {od__law_commits an__law_commits : Option Addr} {sl__law_commits : Array (Option Value)} {oc__law_commits kV__law_commits dc__law_commits pm__law_commits cd__law_commits ct__law_commits : Value}
    {f__law_is_source : Addr} {od__law_is_source an__law_is_source : Option Addr} {sl__law_is_source : Array (Option Value)} {oc__law_is_source kV__law_is_source dc__law_is_source pm__law_is_source cd__law_is_source ct__law_is_source : Value}
    {f__law_draw_source : Addr} {od__law_draw_source an__law_draw_source : Option Addr} {sl__law_draw_source : Array (Option Value)} {oc__law_draw_source kV__law_draw_source dc__law_draw_source pm__law_draw_source cd__law_draw_source ct__law_draw_source : Value}
    {f__law_near : Addr} {od__law_near an__law_near : Option Addr} {sl__law_near : Array (Option Value)} {oc__law_near kV__law_near dc__law_near pm__law_near cd__law_near ct__law_near : Value}
    {f_law : Addr} {od_law an_law : Option Addr} {sl_law : Array (Option Value)} {oc_law kV_law dc_law pm_law cd_law ct_law : Value}
    (a_is_integer : PySem.W.nsIn K mainGlobals "is_integer" = some (some (.ref f_is_integer))) (l_is_integer : K.lookup f_is_integer = some ⟨oc_is_integer, od_is_integer, .func (PySem.W.fnOf "is_integer" "is_integer" (defArgs s_is_integer) (defBody s_is_integer) (defScope s_is_integer) .none kV_is_integer dc_is_integer pm_is_integer an_is_integer cd_is_integer ct_is_integer), sl_is_integer⟩) (c_is_integer : PySem.W.codeIn K cd_is_integer "is_integer" = true) (k_is_integer : PySem.W.keepIn K (.ref f_is_integer) = true)
    (a_is_within : PySem.W.nsIn K mainGlobals "is_within" = some (some (.ref f_is_within))) (l_is_within : K.lookup f_is_within = some ⟨oc_is_within, od_is_within, .func (PySem.W.fnOf "is_within" "is_within" (defArgs s_is_within) (defBody s_is_within) (defScope s_is_within) .none kV_is_within dc_is_within pm_is_within an_is_within cd_is_within ct_is_within), sl_is_within⟩) (c_is_within : PySem.W.codeIn K cd_is_within "is_within" = true) (k_is_within : PySem.W.keepIn K (.ref f_is_within) = true)
    (a_value_passes : PySem.W.nsIn K mainGlobals "value_passes" = some (some (.ref f_value_passes))) (l_value_passes : K.lookup f_value_passes = some ⟨oc_value_passes, od_value_passes, .func (PySem.W.fnOf "value_passes" "value_passes" (defArgs s_value_passes) (defBody s_value_passes) (defScope s_value_passes) .none kV_value_passes dc_value_passes pm_value_passes an_value_passes cd_value_passes ct_value_passes), sl_value_passes⟩) (c_value_passes : PySem.W.codeIn K cd_value_passes "value_passes" = true) (k_value_passes : PySem.W.keepIn K (.ref f_value_passes) = true)
    (a_pair_passes : PySem.W.nsIn K mainGlobals "pair_passes" = some (some (.ref f_pair_passes))) (l_pair_passes : K.lookup f_pair_passes = some ⟨oc_pair_passes, od_pair_passes, .func (PySem.W.fnOf "pair_passes" "pair_passes" (defArgs s_pair_passes) (defBody s_pair_passes) (defScope s_pair_passes) .none kV_pair_passes dc_pair_passes pm_pair_passes an_pair_passes cd_pair_passes ct_pair_passes), sl_pair_passes⟩) (c_pair_passes : PySem.W.codeIn K cd_pair_passes "pair_passes" = true) (k_pair_passes : PySem.W.keepIn K (.ref f_pair_passes) = true)
    (a_is_parent_state : PySem.W.nsIn K mainGlobals "is_parent_state" = some (some (.ref f_is_parent_state))) (l_is_parent_state : K.lookup f_is_parent_state = some ⟨oc_is_parent_state, od_is_parent_state, .func (PySem.W.fnOf "is_parent_state" "is_parent_state" (defArgs s_is_parent_state) (defBody s_is_parent_state) (defScope s_is_parent_state) .none kV_is_parent_state dc_is_parent_state pm_is_parent_state an_is_parent_state cd_is_parent_state ct_is_parent_state), sl_is_parent_state⟩) (c_is_parent_state : PySem.W.codeIn K cd_is_parent_state "is_parent_state" = true) (k_is_parent_state : PySem.W.keepIn K (.ref f_is_parent_state) = true)
    (a_is_child_state : PySem.W.nsIn K mainGlobals "is_child_state" = some (some (.ref f_is_child_state))) (l_is_child_state : K.lookup f_is_child_state = some ⟨oc_is_child_state, od_is_child_state, .func (PySem.W.fnOf "is_child_state" "is_child_state" (defArgs s_is_child_state) (defBody s_is_child_state) (defScope s_is_child_state) .none kV_is_child_state dc_is_child_state pm_is_child_state an_is_child_state cd_is_child_state ct_is_child_state), sl_is_child_state⟩) (c_is_child_state : PySem.W.codeIn K cd_is_child_state "is_child_state" = true) (k_is_child_state : PySem.W.keepIn K (.ref f_is_child_state) = true)
    (a_are_states : PySem.W.nsIn K mainGlobals "are_states" = some (some (.ref f_are_states))) (l_are_states : K.lookup f_are_states = some ⟨oc_are_states, od_are_states, .func (PySem.W.fnOf "are_states" "are_states" (defArgs s_are_states) (defBody s_are_states) (defScope s_are_states) .none kV_are_states dc_are_states pm_are_states an_are_states cd_are_states ct_are_states), sl_are_states⟩) (c_are_states : PySem.W.codeIn K cd_are_states "are_states" = true) (k_are_states : PySem.W.keepIn K (.ref f_are_states) = true)
    (a_is_source : PySem.W.nsIn K mainGlobals "is_source" = some (some (.ref f_is_source))) (l_is_source : K.lookup f_is_source = some ⟨oc_is_source, od_is_source, .func (PySem.W.fnOf "is_source" "is_source" (defArgs s_is_source) (defBody s_is_source) (defScope s_is_source) .none kV_is_source dc_is_source pm_is_source an_is_source cd_is_source ct_is_source), sl_is_source⟩) (c_is_source : PySem.W.codeIn K cd_is_source "is_source" = true) (k_is_source : PySem.W.keepIn K (.ref f_is_source) = true)
    (a_state_passes : PySem.W.nsIn K mainGlobals "state_passes" = some (some (.ref f_state_passes))) (l_state_passes : K.lookup f_state_passes = some ⟨oc_state_passes, od_state_passes, .func (PySem.W.fnOf "state_passes" "state_passes" (defArgs s_state_passes) (defBody s_state_passes) (defScope s_state_passes) .none kV_state_passes dc_state_passes pm_state_passes an_state_passes cd_state_passes ct_state_passes), sl_state_passes⟩) (c_state_passes : PySem.W.codeIn K cd_state_passes "state_passes" = true) (k_state_passes : PySem.W.keepIn K (.ref f_state_passes) = true)
    (a_child_passes : PySem.W.nsIn K mainGlobals "child_passes" = some (some (.ref f_child_passes))) (l_child_passes : K.lookup f_child_passes = some ⟨oc_child_passes, od_child_passes, .func (PySem.W.fnOf "child_passes" "child_passes" (defArgs s_child_passes) (defBody s_child_passes) (defScope s_child_passes) .none kV_child_passes dc_child_passes pm_child_passes an_child_passes cd_child_passes ct_child_passes), sl_child_passes⟩) (c_child_passes : PySem.W.codeIn K cd_child_passes "child_passes" = true) (k_child_passes : PySem.W.keepIn K (.ref f_child_passes) = true)
    (a_wished : PySem.W.nsIn K mainGlobals "wished" = some (some (.ref f_wished))) (l_wished : K.lookup f_wished = some ⟨oc_wished, od_wished, .func (PySem.W.fnOf "wished" "wished" (defArgs s_wished) (defBody s_wished) (defScope s_wished) .none kV_wished dc_wished pm_wished an_wished cd_wished ct_wished), sl_wished⟩) (c_wished : PySem.W.codeIn K cd_wished "wished" = true) (k_wished : PySem.W.keepIn K (.ref f_wished) = true)
    (a__law_open : PySem.W.nsIn K mainGlobals "_law_open" = some (some (.ref f__law_open))) (l__law_open : K.lookup f__law_open = some ⟨oc__law_open, od__law_open, .func (PySem.W.fnOf "_law_open" "_law_open" (defArgs s__law_open) (defBody s__law_open) (defScope s__law_open) .none kV__law_open dc__law_open pm__law_open an__law_open cd__law_open ct__law_open), sl__law_open⟩) (c__law_open : PySem.W.codeIn K cd__law_open "_law_open" = true) (k__law_open : PySem.W.keepIn K (.ref f__law_open) = true)
    (a__law_spread : PySem.W.nsIn K mainGlobals "_law_spread" = some (some (.ref f__law_spread))) (l__law_spread : K.lookup f__law_spread = some ⟨oc__law_spread, od__law_spread, .func (PySem.W.fnOf "_law_spread" "_law_spread" (defArgs s__law_spread) (defBody s__law_spread) (defScope s__law_spread) .none kV__law_spread dc__law_spread pm__law_spread an__law_spread cd__law_spread ct__law_spread), sl__law_spread⟩) (c__law_spread : PySem.W.codeIn K cd__law_spread "_law_spread" = true) (k__law_spread : PySem.W.keepIn K (.ref f__law_spread) = true)
    (a__law_take : PySem.W.nsIn K mainGlobals "_law_take" = some (some (.ref f__law_take))) (l__law_take : K.lookup f__law_take = some ⟨oc__law_take, od__law_take, .func (PySem.W.fnOf "_law_take" "_law_take" (defArgs s__law_take) (defBody s__law_take) (defScope s__law_take) .none kV__law_take dc__law_take pm__law_take an__law_take cd__law_take ct__law_take), sl__law_take⟩) (c__law_take : PySem.W.codeIn K cd__law_take "_law_take" = true) (k__law_take : PySem.W.keepIn K (.ref f__law_take) = true)
    (a__law_same : PySem.W.nsIn K mainGlobals "_law_same" = some (some (.ref f__law_same))) (l__law_same : K.lookup f__law_same = some ⟨oc__law_same, od__law_same, .func (PySem.W.fnOf "_law_same" "_law_same" (defArgs s__law_same) (defBody s__law_same) (defScope s__law_same) .none kV__law_same dc__law_same pm__law_same an__law_same cd__law_same ct__law_same), sl__law_same⟩) (c__law_same : PySem.W.codeIn K cd__law_same "_law_same" = true) (k__law_same : PySem.W.keepIn K (.ref f__law_same) = true)
    (a__law_one_of : PySem.W.nsIn K mainGlobals "_law_one_of" = some (some (.ref f__law_one_of))) (l__law_one_of : K.lookup f__law_one_of = some ⟨oc__law_one_of, od__law_one_of, .func (PySem.W.fnOf "_law_one_of" "_law_one_of" (defArgs s__law_one_of) (defBody s__law_one_of) (defScope s__law_one_of) .none kV__law_one_of dc__law_one_of pm__law_one_of an__law_one_of cd__law_one_of ct__law_one_of), sl__law_one_of⟩) (c__law_one_of : PySem.W.codeIn K cd__law_one_of "_law_one_of" = true) (k__law_one_of : PySem.W.keepIn K (.ref f__law_one_of) = true)
    (a__law_is_integer : PySem.W.nsIn K mainGlobals "_law_is_integer" = some (some (.ref f__law_is_integer))) (l__law_is_integer : K.lookup f__law_is_integer = some ⟨oc__law_is_integer, od__law_is_integer, .func (PySem.W.fnOf "_law_is_integer" "_law_is_integer" (defArgs s__law_is_integer) (defBody s__law_is_integer) (defScope s__law_is_integer) .none kV__law_is_integer dc__law_is_integer pm__law_is_integer an__law_is_integer cd__law_is_integer ct__law_is_integer), sl__law_is_integer⟩) (c__law_is_integer : PySem.W.codeIn K cd__law_is_integer "_law_is_integer" = true) (k__law_is_integer : PySem.W.keepIn K (.ref f__law_is_integer) = true)
    (a__law_odd : PySem.W.nsIn K mainGlobals "_law_odd" = some (some (.ref f__law_odd))) (l__law_odd : K.lookup f__law_odd = some ⟨oc__law_odd, od__law_odd, .func (PySem.W.fnOf "_law_odd" "_law_odd" (defArgs s__law_odd) (defBody s__law_odd) (defScope s__law_odd) .none kV__law_odd dc__law_odd pm__law_odd an__law_odd cd__law_odd ct__law_odd), sl__law_odd⟩) (c__law_odd : PySem.W.codeIn K cd__law_odd "_law_odd" = true) (k__law_odd : PySem.W.keepIn K (.ref f__law_odd) = true)
    (a__law_bent : PySem.W.nsIn K mainGlobals "_law_bent" = some (some (.ref f__law_bent))) (l__law_bent : K.lookup f__law_bent = some ⟨oc__law_bent, od__law_bent, .func (PySem.W.fnOf "_law_bent" "_law_bent" (defArgs s__law_bent) (defBody s__law_bent) (defScope s__law_bent) .none kV__law_bent dc__law_bent pm__law_bent an__law_bent cd__law_bent ct__law_bent), sl__law_bent⟩) (c__law_bent : PySem.W.codeIn K cd__law_bent "_law_bent" = true) (k__law_bent : PySem.W.keepIn K (.ref f__law_bent) = true)
    (a__law_draw_test : PySem.W.nsIn K mainGlobals "_law_draw_test" = some (some (.ref f__law_draw_test))) (l__law_draw_test : K.lookup f__law_draw_test = some ⟨oc__law_draw_test, od__law_draw_test, .func (PySem.W.fnOf "_law_draw_test" "_law_draw_test" (defArgs s__law_draw_test) (defBody s__law_draw_test) (defScope s__law_draw_test) .none kV__law_draw_test dc__law_draw_test pm__law_draw_test an__law_draw_test cd__law_draw_test ct__law_draw_test), sl__law_draw_test⟩) (c__law_draw_test : PySem.W.codeIn K cd__law_draw_test "_law_draw_test" = true) (k__law_draw_test : PySem.W.keepIn K (.ref f__law_draw_test) = true)
    (a__law_draw_case : PySem.W.nsIn K mainGlobals "_law_draw_case" = some (some (.ref f__law_draw_case))) (l__law_draw_case : K.lookup f__law_draw_case = some ⟨oc__law_draw_case, od__law_draw_case, .func (PySem.W.fnOf "_law_draw_case" "_law_draw_case" (defArgs s__law_draw_case) (defBody s__law_draw_case) (defScope s__law_draw_case) .none kV__law_draw_case dc__law_draw_case pm__law_draw_case an__law_draw_case cd__law_draw_case ct__law_draw_case), sl__law_draw_case⟩) (c__law_draw_case : PySem.W.codeIn K cd__law_draw_case "_law_draw_case" = true) (k__law_draw_case : PySem.W.keepIn K (.ref f__law_draw_case) = true)
    (a__law_value_ok : PySem.W.nsIn K mainGlobals "_law_value_ok" = some (some (.ref f__law_value_ok))) (l__law_value_ok : K.lookup f__law_value_ok = some ⟨oc__law_value_ok, od__law_value_ok, .func (PySem.W.fnOf "_law_value_ok" "_law_value_ok" (defArgs s__law_value_ok) (defBody s__law_value_ok) (defScope s__law_value_ok) .none kV__law_value_ok dc__law_value_ok pm__law_value_ok an__law_value_ok cd__law_value_ok ct__law_value_ok), sl__law_value_ok⟩) (c__law_value_ok : PySem.W.codeIn K cd__law_value_ok "_law_value_ok" = true) (k__law_value_ok : PySem.W.keepIn K (.ref f__law_value_ok) = true)
    (a__law_child_ok : PySem.W.nsIn K mainGlobals "_law_child_ok" = some (some (.ref f__law_child_ok))) (l__law_child_ok : K.lookup f__law_child_ok = some ⟨oc__law_child_ok, od__law_child_ok, .func (PySem.W.fnOf "_law_child_ok" "_law_child_ok" (defArgs s__law_child_ok) (defBody s__law_child_ok) (defScope s__law_child_ok) .none kV__law_child_ok dc__law_child_ok pm__law_child_ok an__law_child_ok cd__law_child_ok ct__law_child_ok), sl__law_child_ok⟩) (c__law_child_ok : PySem.W.codeIn K cd__law_child_ok "_law_child_ok" = true) (k__law_child_ok : PySem.W.keepIn K (.ref f__law_child_ok) = true)
    (a__law_wished : PySem.W.nsIn K mainGlobals "_law_wished" = some (some (.ref f__law_wished))) (l__law_wished : K.lookup f__law_wished = some ⟨oc__law_wished, od__law_wished, .func (PySem.W.fnOf "_law_wished" "_law_wished" (defArgs s__law_wished) (defBody s__law_wished) (defScope s__law_wished) .none kV__law_wished dc__law_wished pm__law_wished an__law_wished cd__law_wished ct__law_wished), sl__law_wished⟩) (c__law_wished : PySem.W.codeIn K cd__law_wished "_law_wished" = true) (k__law_wished : PySem.W.keepIn K (.ref f__law_wished) = true)
    (a__law_is_even : PySem.W.nsIn K mainGlobals "_law_is_even" = some (some (.ref f__law_is_even))) (l__law_is_even : K.lookup f__law_is_even = some ⟨oc__law_is_even, od__law_is_even, .func (PySem.W.fnOf "_law_is_even" "_law_is_even" (defArgs s__law_is_even) (defBody s__law_is_even) (defScope s__law_is_even) .none kV__law_is_even dc__law_is_even pm__law_is_even an__law_is_even cd__law_is_even ct__law_is_even), sl__law_is_even⟩) (c__law_is_even : PySem.W.codeIn K cd__law_is_even "_law_is_even" = true) (k__law_is_even : PySem.W.keepIn K (.ref f__law_is_even) = true)
    (a__law_done : PySem.W.nsIn K mainGlobals "_law_done" = some (some (.ref f__law_done))) (l__law_done : K.lookup f__law_done = some ⟨oc__law_done, od__law_done, .func (PySem.W.fnOf "_law_done" "_law_done" (defArgs s__law_done) (defBody s__law_done) (defScope s__law_done) .none kV__law_done dc__law_done pm__law_done an__law_done cd__law_done ct__law_done), sl__law_done⟩) (c__law_done : PySem.W.codeIn K cd__law_done "_law_done" = true) (k__law_done : PySem.W.keepIn K (.ref f__law_done) = true)
    (a__law_commits : PySem.W.nsIn K mainGlobals "_law_commits" = some (some (.ref f__law_commits))) (l__law_commits : K.lookup f__law_commits = some ⟨oc__law_commits, od__law_commits, .func (PySem.W.fnOf "_law_commits" "_law_commits" (defArgs s__law_commits) (defBody s__law_commits) (defScope s__law_commits) .none kV__law_commits dc__law_commits pm__law_commits an__law_commits cd__law_commits ct__law_commits), sl__law_commits⟩) (c__law_commits : PySem.W.codeIn K cd__law_commits "_law_commits" = true) (k__law_commits : PySem.W.keepIn K (.ref f__law_commits) = true)
    (a__law_is_source : PySem.W.nsIn K mainGlobals "_law_is_source" = some (some (.ref f__law_is_source))) (l__law_is_source : K.lookup f__law_is_source = some ⟨oc__law_is_source, od__law_is_source, .func (PySem.W.fnOf "_law_is_source" "_law_is_source" (defArgs s__law_is_source) (defBody s__law_is_source) (defScope s__law_is_source) .none kV__law_is_source dc__law_is_source pm__law_is_source an__law_is_source cd__law_is_source ct__law_is_source), sl__law_is_source⟩) (c__law_is_source : PySem.W.codeIn K cd__law_is_source "_law_is_source" = true) (k__law_is_source : PySem.W.keepIn K (.ref f__law_is_source) = true)
    (a__law_draw_source : PySem.W.nsIn K mainGlobals "_law_draw_source" = some (some (.ref f__law_draw_source))) (l__law_draw_source : K.lookup f__law_draw_source = some ⟨oc__law_draw_source, od__law_draw_source, .func (PySem.W.fnOf "_law_draw_source" "_law_draw_source" (defArgs s__law_draw_source) (defBody s__law_draw_source) (defScope s__law_draw_source) .none kV__law_draw_source dc__law_draw_source pm__law_draw_source an__law_draw_source cd__law_draw_source ct__law_draw_source), sl__law_draw_source⟩) (c__law_draw_source : PySem.W.codeIn K cd__law_draw_source "_law_draw_source" = true) (k__law_draw_source : PySem.W.keepIn K (.ref f__law_draw_source) = true)
    (a__law_near : PySem.W.nsIn K mainGlobals "_law_near" = some (some (.ref f__law_near))) (l__law_near : K.lookup f__law_near = some ⟨oc__law_near, od__law_near, .func (PySem.W.fnOf "_law_near" "_law_near" (defArgs s__law_near) (defBody s__law_near) (defScope s__law_near) .none kV__law_near dc__law_near pm__law_near an__law_near cd__law_near ct__law_near), sl__law_near⟩) (c__law_near : PySem.W.codeIn K cd__law_near "_law_near" = true) (k__law_near : PySem.W.keepIn K (.ref f__law_near) = true)
    (a_law : PySem.W.nsIn K mainGlobals "law" = some (some (.ref f_law))) (l_law : K.lookup f_law = some ⟨oc_law, od_law, .func (PySem.W.fnOf "law" "law" (defArgs s_law) (defBody s_law) (defScope s_law) .none kV_law dc_law pm_law an_law cd_law ct_law), sl_law⟩) (c_law : PySem.W.codeIn K cd_law "law" = true) (k_law : PySem.W.keepIn K (.ref f_law) = true)
    (z_all : PySem.W.nsIn K mainGlobals "all" = some none)
    (z_any : PySem.W.nsIn K mainGlobals "any" = some none)
    (z_bool : PySem.W.nsIn K mainGlobals "bool" = some none)
    (z_enumerate : PySem.W.nsIn K mainGlobals "enumerate" = some none)
    (z_int : PySem.W.nsIn K mainGlobals "int" = some none)
    (z_isinstance : PySem.W.nsIn K mainGlobals "isinstance" = some none)
    (z_len : PySem.W.nsIn K mainGlobals "len" = some none)
    (z_list : PySem.W.nsIn K mainGlobals "list" = some none)
    (z_range : PySem.W.nsIn K mainGlobals "range" = some none)
    (z_repr : PySem.W.nsIn K mainGlobals "repr" = some none)
    (z_sorted : PySem.W.nsIn K mainGlobals "sorted" = some none)
    (z_str : PySem.W.nsIn K mainGlobals "str" = some none)
    (z_tuple : PySem.W.nsIn K mainGlobals "tuple" = some none)
    (z_zip : PySem.W.nsIn K mainGlobals "zip" = some none)
    {t_ABSENT : Tok} (g_ABSENT : PySem.W.nsIn K mainGlobals "ABSENT" = some (some (.int (-1) t_ABSENT)))
    : ∃ fd : FuncData, (∀ (s : Shared) (v : Value), BindsTo s fd ⟨[v], []⟩ [("script", v)]) ∧ ∀ base : Heap, K.In base → base.Ns mainGlobals mg → DFn l.prog w K mg base 27 fa fd ["script"] (spLaw 63) := by
  have e := hfa.symm.trans (PySem.W.mg_of X G a_law)
  cases e
  have T : Txt K mg := ⟨PySem.W.mg_none_of X G z_all, PySem.W.mg_none_of X G z_any, PySem.W.mg_none_of X G z_bool, PySem.W.mg_none_of X G z_enumerate, PySem.W.mg_none_of X G z_int, PySem.W.mg_none_of X G z_isinstance, PySem.W.mg_none_of X G z_len, PySem.W.mg_none_of X G z_list, PySem.W.mg_none_of X G z_range, PySem.W.mg_none_of X G z_repr, PySem.W.mg_none_of X G z_sorted, PySem.W.mg_none_of X G z_str, PySem.W.mg_none_of X G z_tuple, PySem.W.mg_none_of X G z_zip, ⟨t_ABSENT, PySem.W.mg_of X G g_ABSENT⟩⟩
  have F_is_integer := fun_mk (st := s_is_integer) l_is_integer c_is_integer k_is_integer
  have m_is_integer := PySem.W.mg_of X G a_is_integer
  have b_is_integer := F_is_integer.binds (ps := p_is_integer) fun _ _ _ _ _ _ us hl => match us, hl with | [_], _ => rfl
  have F_is_within := fun_mk (st := s_is_within) l_is_within c_is_within k_is_within
  have m_is_within := PySem.W.mg_of X G a_is_within
  have b_is_within := F_is_within.binds (ps := p_is_within) fun _ _ _ _ _ _ us hl => match us, hl with | [_, _, _], _ => rfl
  have F_value_passes := fun_mk (st := s_value_passes) l_value_passes c_value_passes k_value_passes
  have m_value_passes := PySem.W.mg_of X G a_value_passes
  have b_value_passes := F_value_passes.binds (ps := p_value_passes) fun _ _ _ _ _ _ us hl => match us, hl with | [_, _], _ => rfl
  have F_pair_passes := fun_mk (st := s_pair_passes) l_pair_passes c_pair_passes k_pair_passes
  have m_pair_passes := PySem.W.mg_of X G a_pair_passes
  have b_pair_passes := F_pair_passes.binds (ps := p_pair_passes) fun _ _ _ _ _ _ us hl => match us, hl with | [_, _, _], _ => rfl
  have F_is_parent_state := fun_mk (st := s_is_parent_state) l_is_parent_state c_is_parent_state k_is_parent_state
  have m_is_parent_state := PySem.W.mg_of X G a_is_parent_state
  have b_is_parent_state := F_is_parent_state.binds (ps := p_is_parent_state) fun _ _ _ _ _ _ us hl => match us, hl with | [_, _], _ => rfl
  have F_is_child_state := fun_mk (st := s_is_child_state) l_is_child_state c_is_child_state k_is_child_state
  have m_is_child_state := PySem.W.mg_of X G a_is_child_state
  have b_is_child_state := F_is_child_state.binds (ps := p_is_child_state) fun _ _ _ _ _ _ us hl => match us, hl with | [_, _], _ => rfl
  have F_are_states := fun_mk (st := s_are_states) l_are_states c_are_states k_are_states
  have m_are_states := PySem.W.mg_of X G a_are_states
  have b_are_states := F_are_states.binds (ps := p_are_states) fun _ _ _ _ _ _ us hl => match us, hl with | [_, _], _ => rfl
  have F_is_source := fun_mk (st := s_is_source) l_is_source c_is_source k_is_source
  have m_is_source := PySem.W.mg_of X G a_is_source
  have b_is_source := F_is_source.binds (ps := p_is_source) fun _ _ _ _ _ _ us hl => match us, hl with | [_, _], _ => rfl
  have F_state_passes := fun_mk (st := s_state_passes) l_state_passes c_state_passes k_state_passes
  have m_state_passes := PySem.W.mg_of X G a_state_passes
  have b_state_passes := F_state_passes.binds (ps := p_state_passes) fun _ _ _ _ _ _ us hl => match us, hl with | [_, _, _], _ => rfl
  have F_child_passes := fun_mk (st := s_child_passes) l_child_passes c_child_passes k_child_passes
  have m_child_passes := PySem.W.mg_of X G a_child_passes
  have b_child_passes := F_child_passes.binds (ps := p_child_passes) fun _ _ _ _ _ _ us hl => match us, hl with | [_, _], _ => rfl
  have F_wished := fun_mk (st := s_wished) l_wished c_wished k_wished
  have m_wished := PySem.W.mg_of X G a_wished
  have b_wished := F_wished.binds (ps := p_wished) fun _ _ _ _ _ _ us hl => match us, hl with | [_, _], _ => rfl
  have F__law_open := fun_mk (st := s__law_open) l__law_open c__law_open k__law_open
  have m__law_open := PySem.W.mg_of X G a__law_open
  have b__law_open := F__law_open.binds (ps := p__law_open) fun _ _ _ _ _ _ us hl => match us, hl with | [_], _ => rfl
  have F__law_spread := fun_mk (st := s__law_spread) l__law_spread c__law_spread k__law_spread
  have m__law_spread := PySem.W.mg_of X G a__law_spread
  have b__law_spread := F__law_spread.binds (ps := p__law_spread) fun _ _ _ _ _ _ us hl => match us, hl with | [_, _], _ => rfl
  have F__law_take := fun_mk (st := s__law_take) l__law_take c__law_take k__law_take
  have m__law_take := PySem.W.mg_of X G a__law_take
  have b__law_take := F__law_take.binds (ps := p__law_take) fun _ _ _ _ _ _ us hl => match us, hl with | [_, _], _ => rfl
  have F__law_same := fun_mk (st := s__law_same) l__law_same c__law_same k__law_same
  have m__law_same := PySem.W.mg_of X G a__law_same
  have b__law_same := F__law_same.binds (ps := p__law_same) fun _ _ _ _ _ _ us hl => match us, hl with | [_, _], _ => rfl
  have F__law_one_of := fun_mk (st := s__law_one_of) l__law_one_of c__law_one_of k__law_one_of
  have m__law_one_of := PySem.W.mg_of X G a__law_one_of
  have b__law_one_of := F__law_one_of.binds (ps := p__law_one_of) fun _ _ _ _ _ _ us hl => match us, hl with | [_, _], _ => rfl
  have F__law_is_integer := fun_mk (st := s__law_is_integer) l__law_is_integer c__law_is_integer k__law_is_integer
  have m__law_is_integer := PySem.W.mg_of X G a__law_is_integer
  have b__law_is_integer := F__law_is_integer.binds (ps := p__law_is_integer) fun _ _ _ _ _ _ us hl => match us, hl with | [_, _, _], _ => rfl
  have F__law_odd := fun_mk (st := s__law_odd) l__law_odd c__law_odd k__law_odd
  have m__law_odd := PySem.W.mg_of X G a__law_odd
  have b__law_odd := F__law_odd.binds (ps := p__law_odd) fun _ _ _ _ _ _ us hl => match us, hl with | [_], _ => rfl
  have F__law_bent := fun_mk (st := s__law_bent) l__law_bent c__law_bent k__law_bent
  have m__law_bent := PySem.W.mg_of X G a__law_bent
  have b__law_bent := F__law_bent.binds (ps := p__law_bent) fun _ _ _ _ _ _ us hl => match us, hl with | [_, _], _ => rfl
  have F__law_draw_test := fun_mk (st := s__law_draw_test) l__law_draw_test c__law_draw_test k__law_draw_test
  have m__law_draw_test := PySem.W.mg_of X G a__law_draw_test
  have b__law_draw_test := F__law_draw_test.binds (ps := p__law_draw_test) fun _ _ _ _ _ _ us hl => match us, hl with | [_, _, _], _ => rfl
  have F__law_draw_case := fun_mk (st := s__law_draw_case) l__law_draw_case c__law_draw_case k__law_draw_case
  have m__law_draw_case := PySem.W.mg_of X G a__law_draw_case
  have b__law_draw_case := F__law_draw_case.binds (ps := p__law_draw_case) fun _ _ _ _ _ _ us hl => match us, hl with | [_, _], _ => rfl
  have F__law_value_ok := fun_mk (st := s__law_value_ok) l__law_value_ok c__law_value_ok k__law_value_ok
  have m__law_value_ok := PySem.W.mg_of X G a__law_value_ok
  have b__law_value_ok := F__law_value_ok.binds (ps := p__law_value_ok) fun _ _ _ _ _ _ us hl => match us, hl with | [_, _], _ => rfl
  have F__law_child_ok := fun_mk (st := s__law_child_ok) l__law_child_ok c__law_child_ok k__law_child_ok
  have m__law_child_ok := PySem.W.mg_of X G a__law_child_ok
  have b__law_child_ok := F__law_child_ok.binds (ps := p__law_child_ok) fun _ _ _ _ _ _ us hl => match us, hl with | [_, _, _], _ => rfl
  have F__law_wished := fun_mk (st := s__law_wished) l__law_wished c__law_wished k__law_wished
  have m__law_wished := PySem.W.mg_of X G a__law_wished
  have b__law_wished := F__law_wished.binds (ps := p__law_wished) fun _ _ _ _ _ _ us hl => match us, hl with | [_, _], _ => rfl
  have F__law_is_even := fun_mk (st := s__law_is_even) l__law_is_even c__law_is_even k__law_is_even
  have m__law_is_even := PySem.W.mg_of X G a__law_is_even
  have b__law_is_even := F__law_is_even.binds (ps := p__law_is_even) fun _ _ _ _ _ _ us hl => match us, hl with | [_], _ => rfl
  have F__law_done := fun_mk (st := s__law_done) l__law_done c__law_done k__law_done
  have m__law_done := PySem.W.mg_of X G a__law_done
  have b__law_done := F__law_done.binds (ps := p__law_done) fun _ _ _ _ _ _ us hl => match us, hl with | [_, _], _ => rfl
  have F__law_commits := fun_mk (st := s__law_commits) l__law_commits c__law_commits k__law_commits
  have m__law_commits := PySem.W.mg_of X G a__law_commits
  have b__law_commits := F__law_commits.binds (ps := p__law_commits) fun _ _ _ _ _ _ us hl => match us, hl with | [_, _], _ => rfl
  have F__law_is_source := fun_mk (st := s__law_is_source) l__law_is_source c__law_is_source k__law_is_source
  have m__law_is_source := PySem.W.mg_of X G a__law_is_source
  have b__law_is_source := F__law_is_source.binds (ps := p__law_is_source) fun _ _ _ _ _ _ us hl => match us, hl with | [_, _], _ => rfl
  have F__law_draw_source := fun_mk (st := s__law_draw_source) l__law_draw_source c__law_draw_source k__law_draw_source
  have m__law_draw_source := PySem.W.mg_of X G a__law_draw_source
  have b__law_draw_source := F__law_draw_source.binds (ps := p__law_draw_source) fun _ _ _ _ _ _ us hl => match us, hl with | [_, _], _ => rfl
  have F__law_near := fun_mk (st := s__law_near) l__law_near c__law_near k__law_near
  have m__law_near := PySem.W.mg_of X G a__law_near
  have b__law_near := F__law_near.binds (ps := p__law_near) fun _ _ _ _ _ _ us hl => match us, hl with | [_, _, _], _ => rfl
  have F_law := fun_mk (st := s_law) l_law c_law k_law
  have m_law := PySem.W.mg_of X G a_law
  have b_law := F_law.binds (ps := p_law) fun _ _ _ _ _ _ us hl => match us, hl with | [_], _ => rfl
  refine ⟨PySem.W.fnOf "law" "law" (defArgs s_law) (defBody s_law) (defScope s_law) .none kV_law dc_law pm_law an_law cd_law ct_law, fun s v => .of_eq rfl, fun base _ _ => ?_⟩
  have C_is_integer : Callee l.prog w K mg base "is_integer" 1 p_is_integer sp_is_integer := callee_mk F_is_integer m_is_integer b_is_integer (DFn.imp (okG_is_integer F_is_integer T) liftF_P)
  have C_is_within : Callee l.prog w K mg base "is_within" 2 p_is_within sp_is_within := callee_mk F_is_within m_is_within b_is_within (DFn.imp (okG_is_within F_is_within T C_is_integer) liftF_P)
  have C_value_passes : Callee l.prog w K mg base "value_passes" 1 p_value_passes sp_value_passes := callee_mk F_value_passes m_value_passes b_value_passes (DFn.imp (okG_value_passes F_value_passes T) liftF_P)
  have C_pair_passes : Callee l.prog w K mg base "pair_passes" 1 p_pair_passes sp_pair_passes := callee_mk F_pair_passes m_pair_passes b_pair_passes (DFn.imp (okG_pair_passes F_pair_passes T) liftF_P)
  have C_is_parent_state : Callee l.prog w K mg base "is_parent_state" 3 p_is_parent_state sp_is_parent_state := callee_mk F_is_parent_state m_is_parent_state b_is_parent_state (DFn.imp (okG_is_parent_state F_is_parent_state T C_is_within) liftF_P)
  have C_is_child_state : Callee l.prog w K mg base "is_child_state" 3 p_is_child_state sp_is_child_state := callee_mk F_is_child_state m_is_child_state b_is_child_state (DFn.imp (okG_is_child_state F_is_child_state T C_is_within) liftF_P)
  have C_are_states : Callee l.prog w K mg base "are_states" 4 p_are_states sp_are_states := callee_mk F_are_states m_are_states b_are_states (DFn.imp (okG_are_states F_are_states T C_is_child_state C_is_parent_state) liftF_P)
  have C_is_source : Callee l.prog w K mg base "is_source" 5 p_is_source sp_is_source := callee_mk F_is_source m_is_source b_is_source (DFn.imp (okG_is_source F_is_source T C_are_states) liftF_P)
  have C_state_passes : Callee l.prog w K mg base "state_passes" 2 p_state_passes sp_state_passes := callee_mk F_state_passes m_state_passes b_state_passes (DFn.imp (okG_state_passes F_state_passes T C_pair_passes) liftF_P)
  have C_child_passes : Callee l.prog w K mg base "child_passes" 3 p_child_passes sp_child_passes := callee_mk F_child_passes m_child_passes b_child_passes (DFn.imp (okG_child_passes F_child_passes T C_state_passes) liftF_P)
  have C_wished : Callee l.prog w K mg base "wished" 4 p_wished sp_wished := callee_mk F_wished m_wished b_wished (DFn.imp (okG_wished F_wished T C_child_passes C_value_passes) liftF_P)
  have C__law_open : Callee l.prog w K mg base "_law_open" 1 p__law_open sp__law_open := callee_mk F__law_open m__law_open b__law_open (ok__law_open' (ok__law_open F__law_open T))
  have C__law_spread : Callee l.prog w K mg base "_law_spread" 1 p__law_spread sp__law_spread := callee_mk F__law_spread m__law_spread b__law_spread (ok__law_spread F__law_spread T)
  have C__law_take : Callee l.prog w K mg base "_law_take" 2 p__law_take sp__law_take := callee_mk F__law_take m__law_take b__law_take (ok__law_take F__law_take T C__law_spread)
  have C__law_same : Callee l.prog w K mg base "_law_same" 21 p__law_same sp__law_same := callee_mk F__law_same m__law_same b__law_same (ok__law_same F__law_same T m__law_same b__law_same)
  have C__law_one_of : Callee l.prog w K mg base "_law_one_of" 3 p__law_one_of sp__law_one_of := callee_mk F__law_one_of m__law_one_of b__law_one_of (ok__law_one_of F__law_one_of T C__law_take)
  have C__law_is_integer : Callee l.prog w K mg base "_law_is_integer" 1 p__law_is_integer sp__law_is_integer := callee_mk F__law_is_integer m__law_is_integer b__law_is_integer (DFn.imp (okG__law_is_integer F__law_is_integer T) liftF_P)
  have C__law_odd : Callee l.prog w K mg base "_law_odd" 4 p__law_odd sp__law_odd := callee_mk F__law_odd m__law_odd b__law_odd (ok__law_odd F__law_odd T C__law_one_of)
  have C__law_bent : Callee l.prog w K mg base "_law_bent" 25 p__law_bent sp__law_bent := callee_mk F__law_bent m__law_bent b__law_bent (ok__law_bent F__law_bent T m__law_bent b__law_bent C__law_odd C__law_one_of C__law_take)
  have C__law_draw_test : Callee l.prog w K mg base "_law_draw_test" 3 p__law_draw_test sp__law_draw_test := callee_mk F__law_draw_test m__law_draw_test b__law_draw_test (ok__law_draw_test F__law_draw_test T C__law_take)
  have C__law_draw_case : Callee l.prog w K mg base "_law_draw_case" 4 p__law_draw_case sp__law_draw_case := callee_mk F__law_draw_case m__law_draw_case b__law_draw_case (ok__law_draw_case F__law_draw_case T C__law_draw_test C__law_one_of C__law_take)
  have C__law_value_ok : Callee l.prog w K mg base "_law_value_ok" 1 p__law_value_ok sp__law_value_ok := callee_mk F__law_value_ok m__law_value_ok b__law_value_ok (DFn.imp (okG__law_value_ok F__law_value_ok T) liftF_P)
  have C__law_child_ok : Callee l.prog w K mg base "_law_child_ok" 1 p__law_child_ok sp__law_child_ok := callee_mk F__law_child_ok m__law_child_ok b__law_child_ok (DFn.imp (okG__law_child_ok F__law_child_ok T) liftF_P)
  have C__law_wished : Callee l.prog w K mg base "_law_wished" 2 p__law_wished sp__law_wished := callee_mk F__law_wished m__law_wished b__law_wished (DFn.imp (okG__law_wished F__law_wished T C__law_child_ok C__law_value_ok) liftF_P)
  have C__law_is_even : Callee l.prog w K mg base "_law_is_even" 1 p__law_is_even sp__law_is_even := callee_mk F__law_is_even m__law_is_even b__law_is_even (DFn.imp (okG__law_is_even F__law_is_even T) liftF_P)
  have C__law_done : Callee l.prog w K mg base "_law_done" 1 p__law_done sp__law_done := callee_mk F__law_done m__law_done b__law_done (DFn.imp (okG__law_done F__law_done T) liftF_P)
  have C__law_commits : Callee l.prog w K mg base "_law_commits" 2 p__law_commits sp__law_commits := callee_mk F__law_commits m__law_commits b__law_commits (DFn.imp (okG__law_commits F__law_commits T C__law_done C__law_is_even) liftF_P)
  have C__law_is_source : Callee l.prog w K mg base "_law_is_source" 2 p__law_is_source sp__law_is_source := callee_mk F__law_is_source m__law_is_source b__law_is_source (DFn.imp (okG__law_is_source F__law_is_source T C__law_is_integer) liftF_P)
  have C__law_draw_source : Callee l.prog w K mg base "_law_draw_source" 4 p__law_draw_source sp__law_draw_source := callee_mk F__law_draw_source m__law_draw_source b__law_draw_source (DFn.imp (okG__law_draw_source F__law_draw_source T C__law_commits C__law_done C__law_one_of C__law_take) liftF_W)
  have C__law_near : Callee l.prog w K mg base "_law_near" 26 p__law_near sp__law_near := callee_mk F__law_near m__law_near b__law_near (DFn.imp (okG__law_near F__law_near T C__law_bent C__law_one_of C__law_take) liftF_W)
  exact (ok_law F_law T C__law_child_ok C__law_draw_case C__law_draw_source C__law_is_source C__law_near C__law_open C__law_same C__law_wished C_child_passes C_is_source C_wished law_hm)
end Law
open PySem PySem.W PyProof.Rows
set_option maxRecDepth 100000 in
set_option maxHeartbeats 0 in
theorem PySem.Challenge.cw_somerows_k02_sources_recognized_holds : PySem.Challenge.rw_somerows_k02_sources_recognized.Holds := by
  w_on; o_law; k_head; (case hw => w_witness2)
  k_fill
  refine DL.walk_ofD (l := PySem.Challenge.rw_somerows_k02_sources_recognized) (k := 27) (x := "script") rfl rfl ⟨rfl, by decide, by decide⟩ (fun w h Y => PySem.W.kIn_of Y) ?F
  case F =>
    intro w mg fa h KX G hmg
    refine' Law.all_mk KX G hmg ?a_is_integer ?l_is_integer ?c_is_integer ?k_is_integer ?a_is_within ?l_is_within ?c_is_within ?k_is_within ?a_value_passes ?l_value_passes ?c_value_passes ?k_value_passes ?a_pair_passes ?l_pair_passes ?c_pair_passes ?k_pair_passes ?a_is_parent_state ?l_is_parent_state ?c_is_parent_state ?k_is_parent_state ?a_is_child_state ?l_is_child_state ?c_is_child_state ?k_is_child_state ?a_are_states ?l_are_states ?c_are_states ?k_are_states ?a_is_source ?l_is_source ?c_is_source ?k_is_source ?a_state_passes ?l_state_passes ?c_state_passes ?k_state_passes ?a_child_passes ?l_child_passes ?c_child_passes ?k_child_passes ?a_wished ?l_wished ?c_wished ?k_wished ?a__law_open ?l__law_open ?c__law_open ?k__law_open ?a__law_spread ?l__law_spread ?c__law_spread ?k__law_spread ?a__law_take ?l__law_take ?c__law_take ?k__law_take ?a__law_same ?l__law_same ?c__law_same ?k__law_same ?a__law_one_of ?l__law_one_of ?c__law_one_of ?k__law_one_of ?a__law_is_integer ?l__law_is_integer ?c__law_is_integer ?k__law_is_integer ?a__law_odd ?l__law_odd ?c__law_odd ?k__law_odd ?a__law_bent ?l__law_bent ?c__law_bent ?k__law_bent ?a__law_draw_test ?l__law_draw_test ?c__law_draw_test ?k__law_draw_test ?a__law_draw_case ?l__law_draw_case ?c__law_draw_case ?k__law_draw_case ?a__law_value_ok ?l__law_value_ok ?c__law_value_ok ?k__law_value_ok ?a__law_child_ok ?l__law_child_ok ?c__law_child_ok ?k__law_child_ok ?a__law_wished ?l__law_wished ?c__law_wished ?k__law_wished ?a__law_is_even ?l__law_is_even ?c__law_is_even ?k__law_is_even ?a__law_done ?l__law_done ?c__law_done ?k__law_done ?a__law_commits ?l__law_commits ?c__law_commits ?k__law_commits ?a__law_is_source ?l__law_is_source ?c__law_is_source ?k__law_is_source ?a__law_draw_source ?l__law_draw_source ?c__law_draw_source ?k__law_draw_source ?a__law_near ?l__law_near ?c__law_near ?k__law_near ?a_law ?l_law ?c_law ?k_law ?z_all ?z_any ?z_bool ?z_enumerate ?z_int ?z_isinstance ?z_len ?z_list ?z_range ?z_repr ?z_sorted ?z_str ?z_tuple ?z_zip ?g_ABSENT
    (case a_is_integer => k_is)
    (case l_is_integer => k_is)
    (case c_is_integer => k_is)
    (case k_is_integer => k_is)
    (case a_is_within => k_is)
    (case l_is_within => k_is)
    (case c_is_within => k_is)
    (case k_is_within => k_is)
    (case a_value_passes => k_is)
    (case l_value_passes => k_is)
    (case c_value_passes => k_is)
    (case k_value_passes => k_is)
    (case a_pair_passes => k_is)
    (case l_pair_passes => k_is)
    (case c_pair_passes => k_is)
    (case k_pair_passes => k_is)
    (case a_is_parent_state => k_is)
    (case l_is_parent_state => k_is)
    (case c_is_parent_state => k_is)
    (case k_is_parent_state => k_is)
    (case a_is_child_state => k_is)
    (case l_is_child_state => k_is)
    (case c_is_child_state => k_is)
    (case k_is_child_state => k_is)
    (case a_are_states => k_is)
    (case l_are_states => k_is)
    (case c_are_states => k_is)
    (case k_are_states => k_is)
    (case a_is_source => k_is)
    (case l_is_source => k_is)
    (case c_is_source => k_is)
    (case k_is_source => k_is)
    (case a_state_passes => k_is)
    (case l_state_passes => k_is)
    (case c_state_passes => k_is)
    (case k_state_passes => k_is)
    (case a_child_passes => k_is)
    (case l_child_passes => k_is)
    (case c_child_passes => k_is)
    (case k_child_passes => k_is)
    (case a_wished => k_is)
    (case l_wished => k_is)
    (case c_wished => k_is)
    (case k_wished => k_is)
    (case a__law_open => k_is)
    (case l__law_open => k_is)
    (case c__law_open => k_is)
    (case k__law_open => k_is)
    (case a__law_spread => k_is)
    (case l__law_spread => k_is)
    (case c__law_spread => k_is)
    (case k__law_spread => k_is)
    (case a__law_take => k_is)
    (case l__law_take => k_is)
    (case c__law_take => k_is)
    (case k__law_take => k_is)
    (case a__law_same => k_is)
    (case l__law_same => k_is)
    (case c__law_same => k_is)
    (case k__law_same => k_is)
    (case a__law_one_of => k_is)
    (case l__law_one_of => k_is)
    (case c__law_one_of => k_is)
    (case k__law_one_of => k_is)
    (case a__law_is_integer => k_is)
    (case l__law_is_integer => k_is)
    (case c__law_is_integer => k_is)
    (case k__law_is_integer => k_is)
    (case a__law_odd => k_is)
    (case l__law_odd => k_is)
    (case c__law_odd => k_is)
    (case k__law_odd => k_is)
    (case a__law_bent => k_is)
    (case l__law_bent => k_is)
    (case c__law_bent => k_is)
    (case k__law_bent => k_is)
    (case a__law_draw_test => k_is)
    (case l__law_draw_test => k_is)
    (case c__law_draw_test => k_is)
    (case k__law_draw_test => k_is)
    (case a__law_draw_case => k_is)
    (case l__law_draw_case => k_is)
    (case c__law_draw_case => k_is)
    (case k__law_draw_case => k_is)
    (case a__law_value_ok => k_is)
    (case l__law_value_ok => k_is)
    (case c__law_value_ok => k_is)
    (case k__law_value_ok => k_is)
    (case a__law_child_ok => k_is)
    (case l__law_child_ok => k_is)
    (case c__law_child_ok => k_is)
    (case k__law_child_ok => k_is)
    (case a__law_wished => k_is)
    (case l__law_wished => k_is)
    (case c__law_wished => k_is)
    (case k__law_wished => k_is)
    (case a__law_is_even => k_is)
    (case l__law_is_even => k_is)
    (case c__law_is_even => k_is)
    (case k__law_is_even => k_is)
    (case a__law_done => k_is)
    (case l__law_done => k_is)
    (case c__law_done => k_is)
    (case k__law_done => k_is)
    (case a__law_commits => k_is)
    (case l__law_commits => k_is)
    (case c__law_commits => k_is)
    (case k__law_commits => k_is)
    (case a__law_is_source => k_is)
    (case l__law_is_source => k_is)
    (case c__law_is_source => k_is)
    (case k__law_is_source => k_is)
    (case a__law_draw_source => k_is)
    (case l__law_draw_source => k_is)
    (case c__law_draw_source => k_is)
    (case k__law_draw_source => k_is)
    (case a__law_near => k_is)
    (case l__law_near => k_is)
    (case c__law_near => k_is)
    (case k__law_near => k_is)
    (case a_law => k_is)
    (case l_law => k_is)
    (case c_law => k_is)
    (case k_law => k_is)
    (case z_all => k_is)
    (case z_any => k_is)
    (case z_bool => k_is)
    (case z_enumerate => k_is)
    (case z_int => k_is)
    (case z_isinstance => k_is)
    (case z_len => k_is)
    (case z_list => k_is)
    (case z_range => k_is)
    (case z_repr => k_is)
    (case z_sorted => k_is)
    (case z_str => k_is)
    (case z_tuple => k_is)
    (case z_zip => k_is)
    (case g_ABSENT => k_is)
