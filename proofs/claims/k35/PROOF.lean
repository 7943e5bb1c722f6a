import PyProof.Rows.All
import Wide.All
import OpenK.AllK
import Wide.FinOn
import HandS.ForMost
import HandS.Walk
import HandS.Wide
import HandS.StrMore
import HandS.Style
import HandS.TupAny
import HandS.DictComp
import HandS.Flow
import KE.GoesEnum
import PyProof.ReprRoads
import PyProof.CallFns
import KE.KUnpack
import HandS.IsInst
import PyProof.NeKinds
import KE.KRevSl
import PyProof.SliceStr2
import PySem.Challenge.RW_surelyorders_k35_comparisons_with_errors
set_option Elab.async false
set_option linter.all false
set_option maxRecDepth 100000
set_option maxHeartbeats 4000000
namespace VL
open PySem PySem.Spec PyProof.Rows L2
abbrev St := L2.St

/-! ## data -/
inductive D where
  | non | bl (b : Bool) | int (i : Int) | str (x : Str) | tup (ds : List D) | rol (ds : List D) | rod (ks : List Key) (ds : List D) | obj (k : Nat) | ref (a : Addr) | ty (n : String)

/-- a list that is only read and never changes -/
def SqLi (K : PySem.W.Frag) (H : Hp) (a : Addr) (xs : List V) : Prop :=
  (∃ o, H a = some (.frz o (.lst xs))) ∨
    ∃ (o : Obj) (its : Array Value) (n : Nat), K.lookup a = some o ∧ o.cls = .type "list" ∧ o.dict = none ∧ o.data = .seq its n ∧ its.size ≤ sizeLine ∧ Vals xs its.toList
theorem SqLi.sq {K : PySem.W.Frag} {H : Hp} {a : Addr} {xs : List V} (h : SqLi K H a xs) : SqL K H a xs := h.elim (fun z => .inl (.inr z)) .inr

mutual
def Rep (K : PySem.W.Frag) (θ : List Addr) (H : Hp) : D → V → Prop
  | .non, v => v = .non
  | .bl b, v => v = .bl b
  | .int i, v => v = .int i
  | .str x, v => v = .str x
  | .tup ds, v => ∃ a vs, v = .ref a ∧ SqT K H a vs ∧ Reps K θ H ds vs
  | .rol ds, v => ∃ a vs, v = .ref a ∧ SqLi K H a vs ∧ Reps K θ H ds vs
  | .rod ks ds, v => ∃ a vs, v = .ref a ∧ (∃ o, H a = some (.frz o (.dK (ks.zip vs)))) ∧ ks.length = ds.length ∧ Reps K θ H ds vs
  | .obj k, v => ∃ a, θ[k]? = some a ∧ v = .ref a
  | .ref a, v => v = .ref a
  | .ty n, v => v = .ty n
def Reps (K : PySem.W.Frag) (θ : List Addr) (H : Hp) : List D → List V → Prop
  | [], vs => vs = []
  | d :: ds, vs => ∃ v vs', vs = v :: vs' ∧ Rep K θ H d v ∧ Reps K θ H ds vs'
end

/-- what never changes once it stands -/
def imm : HO → Bool
  | .tup _ => true
  | .frz _ (.lst _) => true
  | .frz _ (.tup _) => true
  | .frz _ (.dK _) => true
  | .own _ => true
  | .met _ _ => true
  | .rng _ _ => true
  | _ => false
def ImmP (H H' : Hp) : Prop := ∀ a o, H a = some o → imm o = true → H' a = some o
theorem ImmP.refl (H : Hp) : ImmP H H := fun _ _ h _ => h
theorem ImmP.trans {H H1 H2 : Hp} (a : ImmP H H1) (b : ImmP H1 H2) : ImmP H H2 := fun c o h i => b c o (a c o h i) i
theorem ImmP.new {H : Hp} {p : Addr} {o : HO} (h : H p = none) : ImmP H (upd H p o) := fun a u e _ => by
  rw [upd_ne (ne_of_none e h)]; exact e
theorem ImmP.mut {H : Hp} {p : Addr} {o u : HO} (h : H p = some o) (hi : imm o = false) : ImmP H (upd H p u) := fun a w e i => by
  have : a ≠ p := by
    rintro rfl
    rw [h] at e
    cases e
    rw [hi] at i
    cases i
  rw [upd_ne this]; exact e
theorem ImmP.sqt {K : PySem.W.Frag} {H H' : Hp} (m : ImmP H H') {a : Addr} {xs : List V} (h : SqT K H a xs) : SqT K H' a xs := by
  rcases h with (h | ⟨o, h⟩) | h
  · exact .inl (.inl (m _ _ h rfl))
  · exact .inl (.inr ⟨o, m _ _ h rfl⟩)
  · exact .inr h
theorem ImmP.sqli {K : PySem.W.Frag} {H H' : Hp} (m : ImmP H H') {a : Addr} {xs : List V} (h : SqLi K H a xs) : SqLi K H' a xs := by
  rcases h with ⟨o, h⟩ | h
  · exact .inl ⟨o, m _ _ h rfl⟩
  · exact .inr h

/-- the places of the one go on in the other -/
def Le (θ θ' : List Addr) : Prop := ∀ (k : Nat) (a : Addr), θ[k]? = some a → θ'[k]? = some a
theorem Le.refl (θ : List Addr) : Le θ θ := fun _ _ h => h
theorem Le.trans {θ θ' θ'' : List Addr} (a : Le θ θ') (b : Le θ' θ'') : Le θ θ'' := fun k x h => b k x (a k x h)
theorem Le.app (θ more : List Addr) : Le θ (θ ++ more) := fun k a h => by
  rw [List.getElem?_append_left (List.getElem?_eq_some_iff.mp h).1]; exact h

section
variable {K : PySem.W.Frag} {θ θ' : List Addr} {H H' : Hp}
mutual
theorem Rep.mono (hθ : Le θ θ') (m : ImmP H H') : ∀ (d : D) (v : V), Rep K θ H d v → Rep K θ' H' d v
  | .non, _, h => by unfold Rep at *; exact h
  | .bl _, _, h => by unfold Rep at *; exact h
  | .int _, _, h => by unfold Rep at *; exact h
  | .str _, _, h => by unfold Rep at *; exact h
  | .ref _, _, h => by unfold Rep at *; exact h
  | .ty _, _, h => by unfold Rep at *; exact h
  | .obj k, _, h => by
    unfold Rep at *
    obtain ⟨a, e, r⟩ := h
    exact ⟨a, hθ k a e, r⟩
  | .tup ds, _, h => by
    unfold Rep at *
    obtain ⟨a, vs, e, s, r⟩ := h
    exact ⟨a, vs, e, m.sqt s, Reps.mono hθ m ds vs r⟩
  | .rol ds, _, h => by
    unfold Rep at *
    obtain ⟨a, vs, e, s, r⟩ := h
    exact ⟨a, vs, e, m.sqli s, Reps.mono hθ m ds vs r⟩
  | .rod ks ds, _, h => by
    unfold Rep at *
    obtain ⟨a, vs, e, ⟨o, s⟩, l, r⟩ := h
    exact ⟨a, vs, e, ⟨o, m _ _ s rfl⟩, l, Reps.mono hθ m ds vs r⟩
theorem Reps.mono (hθ : Le θ θ') (m : ImmP H H') : ∀ (ds : List D) (vs : List V), Reps K θ H ds vs → Reps K θ' H' ds vs
  | [], _, h => by unfold Reps at *; exact h
  | d :: ds, _, h => by
    unfold Reps at *
    obtain ⟨v, vs', e, r, rs⟩ := h
    exact ⟨v, vs', e, Rep.mono hθ m d v r, Reps.mono hθ m ds vs' rs⟩
end
end

/-! ## the store -/
inductive Ob where
  | lst (ds : List D)
  | dK (kvs : List (Key × D))
  | dT (kvs : List (List Key × D))
  | ins (C : Addr) (fs : List (Str × D))

def RepKV {κ : Type} (K : PySem.W.Frag) (θ : List Addr) (H : Hp) : List (κ × D) → List (κ × V) → Prop
  | [], vs => vs = []
  | (k, d) :: r, vs => ∃ v vs', vs = (k, v) :: vs' ∧ Rep K θ H d v ∧ RepKV K θ H r vs'
theorem RepKV.mono {κ : Type} {K : PySem.W.Frag} {θ θ' : List Addr} {H H' : Hp} (hθ : Le θ θ') (m : ImmP H H') : ∀ (ds : List (κ × D)) (vs : List (κ × V)), RepKV K θ H ds vs → RepKV K θ' H' ds vs
  | [], _, h => h
  | (k, d) :: ds, _, h => by
    obtain ⟨v, vs', e, r, rs⟩ := h
    exact ⟨v, vs', e, Rep.mono hθ m d v r, RepKV.mono hθ m ds vs' rs⟩

def ObR (K : PySem.W.Frag) (θ : List Addr) (H : Hp) (a : Addr) : Ob → Prop
  | .lst ds => ∃ vs, H a = some (.lst vs) ∧ Reps K θ H ds vs
  | .dK kvs => ∃ vs, H a = some (.dK vs) ∧ RepKV K θ H kvs vs
  | .dT kvs => ∃ vs, H a = some (.dT vs) ∧ RepKV K θ H kvs vs
  | .ins C fs => ∃ dx vs, H a = some (.ins C dx vs) ∧ RepKV K θ H fs vs
theorem ObR.some {K : PySem.W.Frag} {θ : List Addr} {H : Hp} {a : Addr} : ∀ {ob : Ob}, ObR K θ H a ob → ∃ o, H a = some o ∧ imm o = false
  | .lst _, ⟨_, h, _⟩ => ⟨_, h, rfl⟩
  | .dK _, ⟨_, h, _⟩ => ⟨_, h, rfl⟩
  | .dT _, ⟨_, h, _⟩ => ⟨_, h, rfl⟩
  | .ins _ _, ⟨_, _, h, _⟩ => ⟨_, h, rfl⟩
/-- an object that is not touched -/
theorem ObR.keep {K : PySem.W.Frag} {θ θ' : List Addr} {H H' : Hp} {a : Addr} (hθ : Le θ θ') (m : ImmP H H') (e : H' a = H a) : ∀ {ob : Ob}, ObR K θ H a ob → ObR K θ' H' a ob
  | .lst _, ⟨vs, h, r⟩ => ⟨vs, e.trans h, Reps.mono hθ m _ _ r⟩
  | .dK _, ⟨vs, h, r⟩ => ⟨vs, e.trans h, RepKV.mono hθ m _ _ r⟩
  | .dT _, ⟨vs, h, r⟩ => ⟨vs, e.trans h, RepKV.mono hθ m _ _ r⟩
  | .ins _ _, ⟨dx, vs, h, r⟩ => ⟨dx, vs, e.trans h, RepKV.mono hθ m _ _ r⟩

structure Bs where
  H0 : Hp
  T0 : List Addr

structure Sat (K : PySem.W.Frag) (B : Bs) (θ : List Addr) (ms : List Ob) (H : Hp) : Prop where
  len : θ.length = ms.length
  nd : θ.Nodup
  obs : ∀ (k : Nat) (ob : Ob) (a : Addr), ms[k]? = some ob → θ[k]? = some a → ObR K θ H a ob
  keep : ∀ b o, B.H0 b = some o → b ∉ B.T0 → H b = some o
  new : ∀ a ∈ θ, a ∈ B.T0 ∨ B.H0 a = none

section
variable {K : PySem.W.Frag} {B : Bs} {θ : List Addr} {ms : List Ob} {H H' : Hp}
theorem Sat.at (S : Sat K B θ ms H) {k : Nat} {ob : Ob} (h : ms[k]? = some ob) : ∃ a, θ[k]? = some a ∧ ObR K θ H a ob := by
  have hk : k < θ.length := by rw [S.len]; exact (List.getElem?_eq_some_iff.mp h).1
  have e : θ[k]? = some θ[k] := List.getElem?_eq_getElem hk
  exact ⟨θ[k], e, S.obs k ob _ h e⟩
theorem Sat.tracked (S : Sat K B θ ms H) {a : Addr} (h : a ∈ θ) : ∃ o, H a = some o ∧ imm o = false := by
  obtain ⟨k, hk, e⟩ := List.getElem_of_mem h
  have h1 : k < ms.length := by rw [← S.len]; exact hk
  exact (S.obs k ms[k] a (List.getElem?_eq_getElem h1) (by rw [List.getElem?_eq_getElem hk, e])).some
theorem Sat.notIn (S : Sat K B θ ms H) {p : Addr} (h : H p = none) : p ∉ θ := fun z => by
  obtain ⟨o, e, _⟩ := S.tracked z
  rw [h] at e; cases e
/-- something new that is no object of the store (a tuple) -/
theorem Sat.fresh (S : Sat K B θ ms H) {p : Addr} {o : HO} (h : H p = none) : Sat K B θ ms (upd H p o) where
  len := S.len
  nd := S.nd
  obs := fun k ob a h1 h2 => (S.obs k ob a h1 h2).keep (Le.refl _) (ImmP.new h) (by
    rw [upd_ne]
    rintro rfl
    exact S.notIn h (List.mem_of_getElem? h2))
  keep := fun b u e n => by rw [upd_ne (ne_of_none (S.keep b u e n) h)]; exact S.keep b u e n
  new := S.new
/-- a new object of the store -/
theorem Sat.alloc (S : Sat K B θ ms H) {p : Addr} {o : HO} {ob : Ob} (h : H p = none) (hob : ObR K (θ ++ [p]) (upd H p o) p ob) : Sat K B (θ ++ [p]) (ms ++ [ob]) (upd H p o) where
  len := by simp [S.len]
  nd := by
    refine List.nodup_append.mpr ⟨S.nd, by simp, fun a ha b hb e => ?_⟩
    have : b = p := by simpa using hb
    subst this; subst e
    exact S.notIn h ha
  obs := fun k ob' a h1 h2 => by
    by_cases hk : k < ms.length
    · rw [List.getElem?_append_left hk] at h1
      rw [List.getElem?_append_left (by rw [S.len]; exact hk)] at h2
      refine (S.obs k ob' a h1 h2).keep (Le.app _ _) (ImmP.new h) ?_
      rw [upd_ne]
      rintro rfl
      exact S.notIn h (List.mem_of_getElem? h2)
    · have hk' : k = ms.length := by
        have := (List.getElem?_eq_some_iff.mp h1).1
        simp at this; omega
      subst hk'
      rw [← S.len] at h2
      simp at h1 h2
      subst h1; subst h2
      exact hob
  keep := fun b u e n => by rw [upd_ne (ne_of_none (S.keep b u e n) h)]; exact S.keep b u e n
  new := fun a ha => by
    rcases List.mem_append.mp ha with z | z
    · exact S.new a z
    · have : a = p := by simpa using z
      subst this
      by_cases hT : a ∈ B.T0
      · exact .inl hT
      · right
        cases q : B.H0 a with
        | none => rfl
        | some o => rw [S.keep a o q hT] at h; cases h
/-- an object of the store is changed -/
theorem Sat.write (S : Sat K B θ ms H) {k : Nat} {a : Addr} {o : HO} {ob : Ob} (hk : θ[k]? = some a) (hob : ObR K θ (upd H a o) a ob) : Sat K B θ (ms.set k ob) (upd H a o) ∧ ImmP H (upd H a o) := by
  have hm : a ∈ θ := List.mem_of_getElem? hk
  obtain ⟨u, hu, hi⟩ := S.tracked hm
  have im : ImmP H (upd H a o) := ImmP.mut hu hi
  refine ⟨⟨by simp [S.len], S.nd, fun j ob' b h1 h2 => ?_, fun b u e n => ?_, S.new⟩, im⟩
  · by_cases hj : j = k
    · subst hj
      rw [hk] at h2; cases h2
      have hl : j < ms.length := by have := (List.getElem?_eq_some_iff.mp h1).1; simpa using this
      rw [List.getElem?_set_self hl] at h1
      cases h1
      exact hob
    · rw [List.getElem?_set_ne (Ne.symm hj)] at h1
      refine (S.obs j ob' b h1 h2).keep (Le.refl _) im ?_
      rw [upd_ne]
      rintro rfl
      obtain ⟨l1, e1⟩ := List.getElem?_eq_some_iff.mp h2
      obtain ⟨l2, e2⟩ := List.getElem?_eq_some_iff.mp hk
      exact hj ((List.getElem_inj S.nd).mp (e1.trans e2.symm))
  · have hb : b ≠ a := by
      rintro rfl
      rcases S.new b hm with z | z
      · exact n z
      · rw [e] at z; cases z
    rw [upd_ne hb]; exact S.keep b u e n
end

/-- the slots -/
structure Slr (K : PySem.W.Frag) (θ : List Addr) (H : Hp) (ds : List (Option D)) (σ : St) : Prop where
  len : ds.length = σ.length
  at_ : ∀ (i : Nat) (d : D), ds[i]? = some (some d) → ∃ v, σ[i]? = some (some v) ∧ Rep K θ H d v
theorem Slr.mono {K : PySem.W.Frag} {θ θ' : List Addr} {H H' : Hp} {ds : List (Option D)} {σ : St} (S : Slr K θ H ds σ) (hθ : Le θ θ') (m : ImmP H H') : Slr K θ' H' ds σ :=
  ⟨S.len, fun i d h => let ⟨v, e, r⟩ := S.at_ i d h; ⟨v, e, Rep.mono hθ m d v r⟩⟩
theorem Slr.set {K : PySem.W.Frag} {θ : List Addr} {H : Hp} {ds : List (Option D)} {σ : St} (S : Slr K θ H ds σ) {d : D} {v : V} (r : Rep K θ H d v) (i : Nat) : Slr K θ H (ds.set i (some d)) (σ.set i (some v)) := by
  refine ⟨by simp [S.len], fun j e h => ?_⟩
  by_cases hj : j = i
  · subst hj
    have hl : j < ds.length := by have := (List.getElem?_eq_some_iff.mp h).1; simpa using this
    rw [List.getElem?_set_self hl] at h
    cases h
    exact ⟨v, List.getElem?_set_self (by rw [← S.len]; exact hl), r⟩
  · rw [List.getElem?_set_ne (Ne.symm hj)] at h
    obtain ⟨w, e1, r1⟩ := S.at_ j e h
    exact ⟨w, by rw [List.getElem?_set_ne (Ne.symm hj)]; exact e1, r1⟩

/-! ## canonical readings -/
def tCan (X : Cx) (e : Expr) : TE := fun σ H Q => ∀ pins s, Inv X pins σ H s → wpAny (model X.prog X.w) X.A (eval e X.env) (EP X pins σ Q) X.xe s
theorem pe_can {X : Cx} {e : Expr} : PE X e (tCan X e) := ⟨fun pins s _ _ _ I h => h pins s I⟩
theorem can_pe {X : Cx} {e : Expr} {t : TE} (h : PE X e t) {σ : St} {H : Hp} {Q : VK} (q : t σ H Q) : tCan X e σ H Q := fun pins s I => h.run pins s σ H Q I q
theorem tCan.mono {X : Cx} {e : Expr} {σ : St} {H : Hp} {Q Q' : VK} (h : tCan X e σ H Q) (q : ∀ v H', Q v H' → Q' v H') : tCan X e σ H Q' := fun pins s I =>
  thn (h pins s I) fun _ _ ⟨v, H', I', r, z⟩ => ⟨v, H', I', r, q v H' z⟩
def ttCan (X : Cx) (e : Expr) : TT := fun σ H Q => ∀ pins s, Inv X pins σ H s → wpAny (model X.prog X.w) X.A (isTrue e X.env (eval e X.env)) (TP X pins σ Q) X.xe s
theorem pt_can {X : Cx} {e : Expr} : PT X e (ttCan X e) := ⟨fun pins s _ _ _ I h => h pins s I⟩
theorem can_pt {X : Cx} {e : Expr} {t : TT} (h : PT X e t) {σ : St} {H : Hp} {Q : Bool → Hp → Prop} (q : t σ H Q) : ttCan X e σ H Q := fun pins s I => h.run pins s σ H Q I q
theorem ttCan.mono {X : Cx} {e : Expr} {σ : St} {H : Hp} {Q Q' : Bool → Hp → Prop} (h : ttCan X e σ H Q) (q : ∀ v H', Q v H' → Q' v H') : ttCan X e σ H Q' := fun pins s I =>
  thn (h pins s I) fun _ _ ⟨H', I', z⟩ => ⟨H', I', q _ H' z⟩
def twCan (X : Cx) (e : Expr) : TT := fun σ H Q => ∀ (whole : Sem Value) pins s, Inv X pins σ H s → wpAny (model X.prog X.w) X.A (isTrue e X.env whole) (TP X pins σ Q) X.xe s
theorem pw_can {X : Cx} {e : Expr} : PW X e (twCan X e) := ⟨fun w pins s _ _ _ I h => h w pins s I⟩
theorem can_pw {X : Cx} {e : Expr} {t : TT} (h : PW X e t) {σ : St} {H : Hp} {Q : Bool → Hp → Prop} (q : t σ H Q) : twCan X e σ H Q := fun w pins s I => h.run w pins s σ H Q I q
def taCan (X : Cx) (es : List Expr) : TA := fun σ H Q => ∀ pos pins s, Inv X pins σ H s → wpAny (model X.prog X.w) X.A (spliced (backTo pos (starEach es X.env))) (AP X pins σ Q) X.xe s
theorem pa_can {X : Cx} {es : List Expr} : PA X es (taCan X es) := ⟨fun pos pins s _ _ _ I h => h pos pins s I⟩
theorem can_pa {X : Cx} {es : List Expr} {t : TA} (h : PA X es t) {σ : St} {H : Hp} {Q : List V → Hp → Prop} (q : t σ H Q) : taCan X es σ H Q := fun pos pins s I => h.run pos pins s σ H Q I q
theorem taCan.mono {X : Cx} {es : List Expr} {σ : St} {H : Hp} {Q Q' : List V → Hp → Prop} (h : taCan X es σ H Q) (q : ∀ v H', Q v H' → Q' v H') : taCan X es σ H Q' := fun pos pins s I =>
  thn (h pos pins s I) fun _ _ ⟨v, H', I', r, z⟩ => ⟨v, H', I', r, q v H' z⟩
def tsCan (X : Cx) (st : Stmt) : TS := fun D σ H => ∀ pins s, Inv X pins σ H s → wpAny (model X.prog X.w) X.A (exec st X.env) (SP X pins D) X.xe s
theorem ps_can {X : Cx} {st : Stmt} : PS X st (tsCan X st) := ⟨fun pins s _ _ _ I h => h pins s I⟩
theorem can_ps {X : Cx} {st : Stmt} {t : TS} (h : PS X st t) {σ : St} {H : Hp} {D : Ends} (q : t D σ H) : tsCan X st D σ H := fun pins s I => h.run pins s σ H D I q
def tssCan (X : Cx) (st : List Stmt) : TS := fun D σ H => ∀ pins s, Inv X pins σ H s → wpAny (model X.prog X.w) X.A (execs st X.env) (SP X pins D) X.xe s
theorem pss_can {X : Cx} {st : List Stmt} : PSs X st (tssCan X st) := ⟨fun pins s _ _ _ I h => h pins s I⟩
theorem can_pss {X : Cx} {st : List Stmt} {t : TS} (h : PSs X st t) {σ : St} {H : Hp} {D : Ends} (q : t D σ H) : tssCan X st D σ H := fun pins s I => h.run pins s σ H D I q
theorem SP.imp {X : Cx} {pins : List (Addr × Obj)} {D D' : Ends} (h1 : ∀ σ H, D.nx σ H → D'.nx σ H) (h2 : ∀ v H, D.rt v H → D'.rt v H) (h3 : ∀ σ H, D.bk σ H → D'.bk σ H) (h4 : ∀ σ H, D.ct σ H → D'.ct σ H) {f : Flow} {s : Shared}
    (h : SP X pins D f s) : SP X pins D' f s := by
  cases f with
  | next => obtain ⟨σ, H, I, q⟩ := h; exact ⟨σ, H, I, h1 _ _ q⟩
  | brk => obtain ⟨σ, H, I, q⟩ := h; exact ⟨σ, H, I, h3 _ _ q⟩
  | cont => obtain ⟨σ, H, I, q⟩ := h; exact ⟨σ, H, I, h4 _ _ q⟩
  | ret u => obtain ⟨v, σ, H, I, r, q⟩ := h; exact ⟨v, σ, H, I, r, h2 _ _ q⟩
theorem tssCan.imp {X : Cx} {st : List Stmt} {D D' : Ends} {σ : St} {H : Hp} (h : tssCan X st D σ H) (h1 : ∀ σ H, D.nx σ H → D'.nx σ H) (h2 : ∀ v H, D.rt v H → D'.rt v H) (h3 : ∀ σ H, D.bk σ H → D'.bk σ H) (h4 : ∀ σ H, D.ct σ H → D'.ct σ H) : tssCan X st D' σ H :=
  fun pins s I => thn (h pins s I) fun _ _ z => SP.imp h1 h2 h3 h4 z
theorem tsCan.imp {X : Cx} {st : Stmt} {D D' : Ends} {σ : St} {H : Hp} (h : tsCan X st D σ H) (h1 : ∀ σ H, D.nx σ H → D'.nx σ H) (h2 : ∀ v H, D.rt v H → D'.rt v H) (h3 : ∀ σ H, D.bk σ H → D'.bk σ H) (h4 : ∀ σ H, D.ct σ H → D'.ct σ H) : tsCan X st D' σ H :=
  fun pins s I => thn (h pins s I) fun _ _ z => SP.imp h1 h2 h3 h4 z
def tgCan (X : Cx) (tg : Expr) : TG := fun v σ H Q => ∀ pins s u, Inv X pins σ H s → RelV v u → wpAny (model X.prog X.w) X.A (assign tg X.env u) (fun _ s' => ∃ σ' H', Inv X pins σ' H' s' ∧ Q σ' H') X.xe s
theorem pg_can {X : Cx} {tg : Expr} : PG X tg (tgCan X tg) := ⟨fun pins s _ _ _ u _ I r h => h pins s u I r⟩
theorem can_pg {X : Cx} {tg : Expr} {t : TG} (h : PG X tg t) {v : V} {σ : St} {H : Hp} {Q : St → Hp → Prop} (q : t v σ H Q) : tgCan X tg v σ H Q := fun pins s u I r => h.run pins s σ H v u Q I r q
theorem tgCan.mono {X : Cx} {tg : Expr} {v : V} {σ : St} {H : Hp} {Q Q' : St → Hp → Prop} (h : tgCan X tg v σ H Q) (q : ∀ σ' H', Q σ' H' → Q' σ' H') : tgCan X tg v σ H Q' := fun pins s u I r =>
  thn (h pins s u I r) fun _ _ ⟨σ', H', I', z⟩ => ⟨σ', H', I', q σ' H' z⟩
def tiCan (X : Cx) (tg e : Expr) : TI := fun σ H R => ∀ pins s, Inv X pins σ H s → wpAny (model X.prog X.w) X.A (eval e X.env) (fun v s1 => wpAny (model X.prog X.w) X.A (pyIter v) (PIE X pins σ tg R) X.xe s1) X.xe s
theorem pi_can {X : Cx} {tg e : Expr} : PI X tg e (tiCan X tg e) := ⟨fun pins s _ _ _ I h => h pins s I⟩
theorem can_pi {X : Cx} {tg e : Expr} {t : TI} (h : PI X tg e t) {σ : St} {H : Hp} {R : It → Hp → Prop} (q : t σ H R) : tiCan X tg e σ H R := fun pins s I => h.run pins s σ H R I q

/-! ## the judgements -/
def PV (K : PySem.W.Frag) (B : Bs) (θ : List Addr) (H : Hp) (Q : D → List Ob → Prop) : VK := fun v H' => ∃ d ms' more, Rep K (θ ++ more) H' d v ∧ ImmP H H' ∧ Sat K B (θ ++ more) ms' H' ∧ Q d ms'
def PVs (K : PySem.W.Frag) (B : Bs) (θ : List Addr) (H : Hp) (Q : List D → List Ob → Prop) : List V → Hp → Prop := fun vs H' => ∃ dl ms' more, Reps K (θ ++ more) H' dl vs ∧ ImmP H H' ∧ Sat K B (θ ++ more) ms' H' ∧ Q dl ms'
def PT' (K : PySem.W.Frag) (B : Bs) (θ : List Addr) (H : Hp) (Q : Bool → List Ob → Prop) : Bool → Hp → Prop := fun b H' => ∃ ms' more, ImmP H H' ∧ Sat K B (θ ++ more) ms' H' ∧ Q b ms'
/-- an expression -/
structure WE (X : Cx) (B : Bs) (ds : List (Option D)) (ms : List Ob) (e : Expr) (Q : D → List Ob → Prop) : Prop where
  run : ∀ σ H θ, Sat X.K B θ ms H → Slr X.K θ H ds σ → tCan X e σ H (PV X.K B θ H Q)
instance {X : Cx} {B : Bs} {ds : List (Option D)} {ms : List Ob} {e : Expr} {Q : D → List Ob → Prop} : CoeFun (WE X B ds ms e Q) (fun _ => ∀ σ H θ, Sat X.K B θ ms H → Slr X.K θ H ds σ → tCan X e σ H (PV X.K B θ H Q)) := ⟨fun h => h.run⟩
/-- arguments -/
structure WA (X : Cx) (B : Bs) (ds : List (Option D)) (ms : List Ob) (es : List Expr) (Q : List D → List Ob → Prop) : Prop where
  run : ∀ σ H θ, Sat X.K B θ ms H → Slr X.K θ H ds σ → taCan X es σ H (PVs X.K B θ H Q)
instance {X : Cx} {B : Bs} {ds : List (Option D)} {ms : List Ob} {es : List Expr} {Q : List D → List Ob → Prop} : CoeFun (WA X B ds ms es Q) (fun _ => ∀ σ H θ, Sat X.K B θ ms H → Slr X.K θ H ds σ → taCan X es σ H (PVs X.K B θ H Q)) := ⟨fun h => h.run⟩
/-- a test; a test within and, or -/
structure WT (X : Cx) (B : Bs) (ds : List (Option D)) (ms : List Ob) (e : Expr) (Q : Bool → List Ob → Prop) : Prop where
  run : ∀ σ H θ, Sat X.K B θ ms H → Slr X.K θ H ds σ → ttCan X e σ H (PT' X.K B θ H Q)
instance {X : Cx} {B : Bs} {ds : List (Option D)} {ms : List Ob} {e : Expr} {Q : Bool → List Ob → Prop} : CoeFun (WT X B ds ms e Q) (fun _ => ∀ σ H θ, Sat X.K B θ ms H → Slr X.K θ H ds σ → ttCan X e σ H (PT' X.K B θ H Q)) := ⟨fun h => h.run⟩
structure WW (X : Cx) (B : Bs) (ds : List (Option D)) (ms : List Ob) (e : Expr) (Q : Bool → List Ob → Prop) : Prop where
  run : ∀ σ H θ, Sat X.K B θ ms H → Slr X.K θ H ds σ → twCan X e σ H (PT' X.K B θ H Q)
instance {X : Cx} {B : Bs} {ds : List (Option D)} {ms : List Ob} {e : Expr} {Q : Bool → List Ob → Prop} : CoeFun (WW X B ds ms e Q) (fun _ => ∀ σ H θ, Sat X.K B θ ms H → Slr X.K θ H ds σ → twCan X e σ H (PT' X.K B θ H Q)) := ⟨fun h => h.run⟩
/-- a target -/
structure WG (X : Cx) (B : Bs) (ds : List (Option D)) (ms : List Ob) (tg : Expr) (d : D) (N : List (Option D) → List Ob → Prop) : Prop where
  run : ∀ σ H θ v, Sat X.K B θ ms H → Slr X.K θ H ds σ → Rep X.K θ H d v → tgCan X tg v σ H fun σ' H' => ∃ ds' ms' more, Slr X.K (θ ++ more) H' ds' σ' ∧ ImmP H H' ∧ Sat X.K B (θ ++ more) ms' H' ∧ N ds' ms'
instance {X : Cx} {B : Bs} {ds : List (Option D)} {ms : List Ob} {tg : Expr} {d : D} {N : List (Option D) → List Ob → Prop} : CoeFun (WG X B ds ms tg d N) (fun _ => ∀ σ H θ v, Sat X.K B θ ms H → Slr X.K θ H ds σ → Rep X.K θ H d v → tgCan X tg v σ H fun σ' H' => ∃ ds' ms' more, Slr X.K (θ ++ more) H' ds' σ' ∧ ImmP H H' ∧ Sat X.K B (θ ++ more) ms' H' ∧ N ds' ms') := ⟨fun h => h.run⟩
/-- the ends of statements -/
structure En where
  nx : List (Option D) → List Ob → Prop
  rt : D → List Ob → Prop
  bk : List (Option D) → List Ob → Prop := fun _ _ => False
  ct : List (Option D) → List Ob → Prop := fun _ _ => False
def nxOf (K : PySem.W.Frag) (B : Bs) (fl : Nat) (θ : List Addr) (H : Hp) (N : List (Option D) → List Ob → Prop) : St → Hp → Prop := fun σ' H' =>
  ∃ ds' ms' θ', Slr K θ' H' ds' σ' ∧ ImmP H H' ∧ θ'.take fl = θ.take fl ∧ Sat K B θ' ms' H' ∧ N ds' ms'
def rtOf (K : PySem.W.Frag) (B : Bs) (fl : Nat) (θ : List Addr) (H : Hp) (R : D → List Ob → Prop) : VK := fun v H' =>
  ∃ d ms' θ', Rep K θ' H' d v ∧ ImmP H H' ∧ θ'.take fl = θ.take fl ∧ Sat K B θ' ms' H' ∧ R d ms'
def enOf (K : PySem.W.Frag) (B : Bs) (fl : Nat) (θ : List Addr) (H : Hp) (E : En) : Ends :=
  ⟨nxOf K B fl θ H E.nx, rtOf K B fl θ H E.rt, nxOf K B fl θ H E.bk, nxOf K B fl θ H E.ct⟩
structure WS (X : Cx) (B : Bs) (fl : Nat) (ds : List (Option D)) (ms : List Ob) (st : Stmt) (E : En) : Prop where
  run : ∀ σ H θ, fl ≤ θ.length → Sat X.K B θ ms H → Slr X.K θ H ds σ → tsCan X st (enOf X.K B fl θ H E) σ H
instance {X : Cx} {B : Bs} {fl : Nat} {ds : List (Option D)} {ms : List Ob} {st : Stmt} {E : En} : CoeFun (WS X B fl ds ms st E) (fun _ => ∀ σ H θ, fl ≤ θ.length → Sat X.K B θ ms H → Slr X.K θ H ds σ → tsCan X st (enOf X.K B fl θ H E) σ H) := ⟨fun h => h.run⟩
structure WSs (X : Cx) (B : Bs) (fl : Nat) (ds : List (Option D)) (ms : List Ob) (st : List Stmt) (E : En) : Prop where
  run : ∀ σ H θ, fl ≤ θ.length → Sat X.K B θ ms H → Slr X.K θ H ds σ → tssCan X st (enOf X.K B fl θ H E) σ H
instance {X : Cx} {B : Bs} {fl : Nat} {ds : List (Option D)} {ms : List Ob} {st : List Stmt} {E : En} : CoeFun (WSs X B fl ds ms st E) (fun _ => ∀ σ H θ, fl ≤ θ.length → Sat X.K B θ ms H → Slr X.K θ H ds σ → tssCan X st (enOf X.K B fl θ H E) σ H) := ⟨fun h => h.run⟩
end VL

namespace VL
open PySem PySem.Spec PyProof.Rows L2

/-! ## what a datum is, as a value -/
section
variable {K : PySem.W.Frag} {θ : List Addr} {H : Hp} {v : V}
theorem rep_non (h : Rep K θ H .non v) : v = .non := by unfold Rep at h; exact h
theorem rep_bl {b : Bool} (h : Rep K θ H (.bl b) v) : v = .bl b := by unfold Rep at h; exact h
theorem rep_int {i : Int} (h : Rep K θ H (.int i) v) : v = .int i := by unfold Rep at h; exact h
theorem rep_str {x : Str} (h : Rep K θ H (.str x) v) : v = .str x := by unfold Rep at h; exact h
theorem rep_ref {x : Addr} (h : Rep K θ H (.ref x) v) : v = .ref x := by unfold Rep at h; exact h
theorem rep_ty {x : String} (h : Rep K θ H (.ty x) v) : v = .ty x := by unfold Rep at h; exact h
theorem rep_obj {k : Nat} (h : Rep K θ H (.obj k) v) : ∃ a, θ[k]? = some a ∧ v = .ref a := by unfold Rep at h; exact h
theorem rep_tup {ds : List D} (h : Rep K θ H (.tup ds) v) : ∃ a vs, v = .ref a ∧ SqT K H a vs ∧ Reps K θ H ds vs := by unfold Rep at h; exact h
theorem rep_rol {ds : List D} (h : Rep K θ H (.rol ds) v) : ∃ a vs, v = .ref a ∧ SqLi K H a vs ∧ Reps K θ H ds vs := by unfold Rep at h; exact h
theorem rep_rod {ks : List Key} {ds : List D} (h : Rep K θ H (.rod ks ds) v) : ∃ a vs, v = .ref a ∧ (∃ o, H a = some (.frz o (.dK (ks.zip vs)))) ∧ ks.length = ds.length ∧ Reps K θ H ds vs := by unfold Rep at h; exact h
theorem mk_non : Rep K θ H .non .non := by unfold Rep; rfl
theorem mk_bl {b : Bool} : Rep K θ H (.bl b) (.bl b) := by unfold Rep; rfl
theorem mk_int {i : Int} : Rep K θ H (.int i) (.int i) := by unfold Rep; rfl
theorem mk_str {x : Str} : Rep K θ H (.str x) (.str x) := by unfold Rep; rfl
theorem mk_ref {x : Addr} : Rep K θ H (.ref x) (.ref x) := by unfold Rep; rfl
theorem mk_ty {x : String} : Rep K θ H (.ty x) (.ty x) := by unfold Rep; rfl
theorem mk_obj {k : Nat} {a : Addr} (h : θ[k]? = some a) : Rep K θ H (.obj k) (.ref a) := by unfold Rep; exact ⟨a, h, rfl⟩
theorem mk_tup {ds : List D} {a : Addr} {vs : List V} (h : SqT K H a vs) (r : Reps K θ H ds vs) : Rep K θ H (.tup ds) (.ref a) := by unfold Rep; exact ⟨a, vs, rfl, h, r⟩
theorem reps_nil {vs : List V} (h : Reps K θ H [] vs) : vs = [] := by unfold Reps at h; exact h
theorem reps_cons {d : D} {ds : List D} {vs : List V} (h : Reps K θ H (d :: ds) vs) : ∃ v vs', vs = v :: vs' ∧ Rep K θ H d v ∧ Reps K θ H ds vs' := by unfold Reps at h; exact h
theorem mk_nil : Reps K θ H [] [] := by unfold Reps; rfl
theorem mk_cons {d : D} {ds : List D} {v : V} {vs : List V} (h : Rep K θ H d v) (r : Reps K θ H ds vs) : Reps K θ H (d :: ds) (v :: vs) := by unfold Reps; exact ⟨v, vs, rfl, h, r⟩
theorem Reps.length : ∀ {ds : List D} {vs : List V}, Reps K θ H ds vs → vs.length = ds.length
  | [], _, h => by rw [reps_nil h]; rfl
  | d :: ds, _, h => by
    obtain ⟨v, vs', rfl, _, r⟩ := reps_cons h
    simp [Reps.length r]
theorem Reps.get : ∀ {ds : List D} {vs : List V} {i : Nat} {d : D}, Reps K θ H ds vs → ds[i]? = some d → ∃ v, vs[i]? = some v ∧ Rep K θ H d v
  | [], _, _, _, _, e => by simp at e
  | d :: ds, _, 0, _, h, e => by
    obtain ⟨v, vs', rfl, r, _⟩ := reps_cons h
    simp at e; subst e
    exact ⟨v, rfl, r⟩
  | d :: ds, _, i + 1, _, h, e => by
    obtain ⟨v, vs', rfl, _, r⟩ := reps_cons h
    obtain ⟨w, e1, r1⟩ := Reps.get (i := i) r (by simpa using e)
    exact ⟨w, by simpa using e1, r1⟩
theorem Reps.getV : ∀ {ds : List D} {vs : List V} {i : Nat} {v : V}, Reps K θ H ds vs → vs[i]? = some v → ∃ d, ds[i]? = some d ∧ Rep K θ H d v := fun {ds vs i v} h e => by
  have l := h.length
  have hi : i < ds.length := by rw [← l]; exact (List.getElem?_eq_some_iff.mp e).1
  obtain ⟨w, e1, r⟩ := h.get (List.getElem?_eq_getElem hi)
  rw [e] at e1; cases e1
  exact ⟨_, List.getElem?_eq_getElem hi, r⟩
theorem Reps.append : ∀ {ds es : List D} {vs ws : List V}, Reps K θ H ds vs → Reps K θ H es ws → Reps K θ H (ds ++ es) (vs ++ ws)
  | [], _, _, _, h, r => by rw [reps_nil h]; exact r
  | d :: ds, _, _, _, h, r => by
    obtain ⟨v, vs', rfl, r1, r2⟩ := reps_cons h
    exact mk_cons r1 (Reps.append r2 r)
theorem Reps.drop : ∀ {ds : List D} {vs : List V} (n : Nat), Reps K θ H ds vs → Reps K θ H (ds.drop n) (vs.drop n)
  | _, _, 0, h => h
  | [], _, n + 1, h => by rw [reps_nil h]; exact mk_nil
  | d :: ds, _, n + 1, h => by
    obtain ⟨v, vs', rfl, _, r⟩ := reps_cons h
    exact Reps.drop n r
theorem Reps.take : ∀ {ds : List D} {vs : List V} (n : Nat), Reps K θ H ds vs → Reps K θ H (ds.take n) (vs.take n)
  | _, _, 0, h => by simpa using mk_nil
  | [], _, n + 1, h => by rw [reps_nil h]; exact mk_nil
  | d :: ds, _, n + 1, h => by
    obtain ⟨v, vs', rfl, r1, r⟩ := reps_cons h
    exact mk_cons r1 (Reps.take n r)
theorem Reps.set : ∀ {ds : List D} {vs : List V} {d : D} {v : V} (n : Nat), Reps K θ H ds vs → Rep K θ H d v → Reps K θ H (ds.set n d) (vs.set n v)
  | [], _, _, _, _, h, _ => by rw [reps_nil h]; exact mk_nil
  | d :: ds, _, _, _, 0, h, r => by
    obtain ⟨v, vs', rfl, r1, r2⟩ := reps_cons h
    exact mk_cons r r2
  | d :: ds, _, _, _, n + 1, h, r => by
    obtain ⟨v, vs', rfl, r1, r2⟩ := reps_cons h
    exact mk_cons r1 (Reps.set n r2 r)
theorem Reps.reverse : ∀ {ds : List D} {vs : List V}, Reps K θ H ds vs → Reps K θ H ds.reverse vs.reverse
  | [], _, h => by rw [reps_nil h]; exact mk_nil
  | d :: ds, _, h => by
    obtain ⟨v, vs', rfl, r1, r⟩ := reps_cons h
    rw [List.reverse_cons, List.reverse_cons]
    exact (Reps.reverse r).append (mk_cons r1 mk_nil)
theorem Reps.ints : ∀ {ns : List Int} {vs : List V}, Reps K θ H (ns.map D.int) vs → vs = ns.map V.int
  | [], _, h => reps_nil h
  | n :: ns, _, h => by
    obtain ⟨v, vs', rfl, r, rs⟩ := reps_cons h
    rw [rep_int r, Reps.ints rs]; rfl
theorem Reps.strs : ∀ {ns : List Str} {vs : List V}, Reps K θ H (ns.map D.str) vs → vs = ns.map V.str
  | [], _, h => reps_nil h
  | n :: ns, _, h => by
    obtain ⟨v, vs', rfl, r, rs⟩ := reps_cons h
    rw [rep_str r, Reps.strs rs]; rfl
end
/-- the items of xs[lo:hi] -/
def cutD (xs : List D) (lo hi : Option Int) : List D := (xs.drop (HT.sIx xs.length 0 lo)).take (HT.sIx xs.length xs.length hi - HT.sIx xs.length 0 lo)
theorem Reps.cut {K : PySem.W.Frag} {θ : List Addr} {H : Hp} {ds : List D} {vs : List V} (r : Reps K θ H ds vs) (lo hi : Option Int) : Reps K θ H (cutD ds lo hi) (cutV vs lo hi) := by
  unfold cutD cutV
  rw [r.length]
  exact (r.drop _).take _
theorem atI_len {α β : Type} {xs : List α} {ys : List β} (h : xs.length = ys.length) {i : Int} {x : α} (e : atI xs i = some x) : ∃ j : Nat, xs[j]? = some x ∧ ∀ y, ys[j]? = some y → atI ys i = some y := by
  unfold atI at e ⊢
  rw [h] at e
  cases q : ixN ys.length i with
  | none => rw [q] at e; cases e
  | some j =>
    rw [q] at e
    exact ⟨j, e, fun y hy => hy⟩
theorem Reps.atI {K : PySem.W.Frag} {θ : List Addr} {H : Hp} {ds : List D} {vs : List V} (r : Reps K θ H ds vs) {i : Int} {d : D} (e : atI ds i = some d) : ∃ v, L2.atI vs i = some v ∧ Rep K θ H d v := by
  obtain ⟨j, e1, f⟩ := atI_len (ys := vs) r.length.symm e
  obtain ⟨v, e2, rv⟩ := r.get e1
  exact ⟨v, f v e2, rv⟩

/-! ## posts -/
section
variable {K : PySem.W.Frag} {B : Bs} {θ : List Addr} {ms : List Ob} {H : Hp} {Q : D → List Ob → Prop}
theorem pv_same {d : D} {v : V} (S : Sat K B θ ms H) (r : Rep K θ H d v) (q : Q d ms) : PV K B θ H Q v H :=
  ⟨d, ms, [], by rw [List.append_nil]; exact r, ImmP.refl _, by rw [List.append_nil]; exact S, q⟩
theorem pv_tup {dl : List D} {vs : List V} {p : Addr} (S : Sat K B θ ms H) (r : Reps K θ H dl vs) (hp : H p = none) (q : Q (.tup dl) ms) : PV K B θ H Q (.ref p) (upd H p (.tup vs)) :=
  ⟨.tup dl, ms, [], by rw [List.append_nil]; exact mk_tup (SqT.of upd_same) (Reps.mono (Le.refl _) (ImmP.new hp) _ _ r), ImmP.new hp, by rw [List.append_nil]; exact S.fresh hp, q⟩
theorem pv_lst {dl : List D} {vs : List V} {p : Addr} (S : Sat K B θ ms H) (r : Reps K θ H dl vs) (hp : H p = none) (q : Q (.obj ms.length) (ms ++ [.lst dl])) : PV K B θ H Q (.ref p) (upd H p (.lst vs)) :=
  ⟨.obj ms.length, ms ++ [.lst dl], [p], mk_obj (by rw [← S.len]; simp), ImmP.new hp, S.alloc (ob := .lst dl) hp ⟨vs, upd_same, Reps.mono (Le.app _ _) (ImmP.new hp) _ _ r⟩, q⟩
theorem pv_set {k : Nat} {a : Addr} {d : D} {v : V} {dl : List D} {vs : List V} (S : Sat K B θ ms H) (hk : θ[k]? = some a) (r : Reps K θ H dl vs) (rd : Rep K θ H d v) (q : Q d (ms.set k (.lst dl))) : PV K B θ H Q v (upd H a (.lst vs)) := by
  have im : ImmP H (upd H a (.lst vs)) := by
    obtain ⟨u, hu, hi⟩ := S.tracked (List.mem_of_getElem? hk)
    exact ImmP.mut hu hi
  have w := S.write (o := .lst vs) (ob := .lst dl) hk ⟨vs, upd_same, Reps.mono (Le.refl _) im _ _ r⟩
  exact ⟨d, _, [], by rw [List.append_nil]; exact Rep.mono (Le.refl _) im _ _ rd, im, by rw [List.append_nil]; exact w.1, q⟩
theorem PV.trans {H1 : Hp} {more : List Addr} {v : V} {H2 : Hp} (im : ImmP H H1) (h : PV K B (θ ++ more) H1 Q v H2) : PV K B θ H Q v H2 := by
  obtain ⟨d, ms', more', r, im2, S, q⟩ := h
  exact ⟨d, ms', more ++ more', by rw [← List.append_assoc]; exact r, im.trans im2, by rw [← List.append_assoc]; exact S, q⟩
theorem PV.imp {Q' : D → List Ob → Prop} (hq : ∀ d m, Q d m → Q' d m) {v : V} {H2 : Hp} (h : PV K B θ H Q v H2) : PV K B θ H Q' v H2 := by
  obtain ⟨d, ms', more', r, im2, S, q⟩ := h
  exact ⟨d, ms', more', r, im2, S, hq _ _ q⟩
theorem PT'.trans {Q : Bool → List Ob → Prop} {H1 : Hp} {more : List Addr} {v : Bool} {H2 : Hp} (im : ImmP H H1) (h : PT' K B (θ ++ more) H1 Q v H2) : PT' K B θ H Q v H2 := by
  obtain ⟨ms', more', im2, S, q⟩ := h
  exact ⟨ms', more ++ more', im.trans im2, by rw [← List.append_assoc]; exact S, q⟩
theorem PVs.trans {Q : List D → List Ob → Prop} {H1 : Hp} {more : List Addr} {v : List V} {H2 : Hp} (im : ImmP H H1) (h : PVs K B (θ ++ more) H1 Q v H2) : PVs K B θ H Q v H2 := by
  obtain ⟨d, ms', more', r, im2, S, q⟩ := h
  exact ⟨d, ms', more ++ more', by rw [← List.append_assoc]; exact r, im.trans im2, by rw [← List.append_assoc]; exact S, q⟩
end

/-! ## expressions -/
section
variable {X : Cx} {B : Bs} {ds : List (Option D)} {ms : List Ob} {Q : D → List Ob → Prop} {a b c : Expr} {pos : Pos}
theorem we_imp {e : Expr} {Q' : D → List Ob → Prop} (h : WE X B ds ms e Q') (q : ∀ d m, Q' d m → Q d m) : WE X B ds ms e Q := .mk fun σ H θ S L => (h σ H θ S L).mono fun v H' z => z.imp q
theorem WE.pe {e : Expr} {t : TE} (h : PE X e t) (q : ∀ σ H θ, Sat X.K B θ ms H → Slr X.K θ H ds σ → t σ H (PV X.K B θ H Q)) : WE X B ds ms e Q := .mk fun σ H θ S L => can_pe h (q σ H θ S L)
/-- sequencing under the semantic readings -/
theorem WE.bind {e : Expr} {Q' : D → List Ob → Prop} (h : WE X B ds ms e Q') {σ : St} {H : Hp} {θ : List Addr} (S : Sat X.K B θ ms H) (L : Slr X.K θ H ds σ) {R : VK}
    (q : ∀ d m v H1 more, Q' d m → Rep X.K (θ ++ more) H1 d v → ImmP H H1 → Sat X.K B (θ ++ more) m H1 → Slr X.K (θ ++ more) H1 ds σ → R v H1) : tCan X e σ H R :=
  (h σ H θ S L).mono fun v H1 ⟨d, m, more, r, im, S1, z⟩ => q d m v H1 more z r im S1 (L.mono (Le.app _ _) im)
theorem WT.bind {e : Expr} {Q' : Bool → List Ob → Prop} (h : WT X B ds ms e Q') {σ : St} {H : Hp} {θ : List Addr} (S : Sat X.K B θ ms H) (L : Slr X.K θ H ds σ) {R : Bool → Hp → Prop}
    (q : ∀ b m H1 more, Q' b m → ImmP H H1 → Sat X.K B (θ ++ more) m H1 → Slr X.K (θ ++ more) H1 ds σ → R b H1) : ttCan X e σ H R :=
  (h σ H θ S L).mono fun v H1 ⟨m, more, im, S1, z⟩ => q v m H1 more z im S1 (L.mono (Le.app _ _) im)
theorem WA.bind {es : List Expr} {Q' : List D → List Ob → Prop} (h : WA X B ds ms es Q') {σ : St} {H : Hp} {θ : List Addr} (S : Sat X.K B θ ms H) (L : Slr X.K θ H ds σ) {R : List V → Hp → Prop}
    (q : ∀ d m v H1 more, Q' d m → Reps X.K (θ ++ more) H1 d v → ImmP H H1 → Sat X.K B (θ ++ more) m H1 → Slr X.K (θ ++ more) H1 ds σ → R v H1) : taCan X es σ H R :=
  (h σ H θ S L).mono fun v H1 ⟨d, m, more, r, im, S1, z⟩ => q d m v H1 more z r im S1 (L.mono (Le.app _ _) im)

theorem we_name (i : Nat) {x : Str} {d : D} (hN : X.N[i]? = some x) (h : ds[i]? = some (some d)) (hv : Vis X.env.scope x) (q : Q d ms)
    (hd : (x == ("__debug__" : Str)) = false := by decide) (hcd : (x == ("__classdict__" : Str)) = false := by decide) : WE X B ds ms (.Name x pos) Q :=
  WE.pe (pe_var hN hv hd hcd) fun σ H θ S L => let ⟨v, e, r⟩ := L.at_ i d h; ⟨v, e, pv_same S r q⟩
theorem we_int {n : Int} {k : Nat} (q : Q (.int n) ms) : WE X B ds ms (.Constant (.int n) k pos) Q := WE.pe pe_int fun σ H θ S L => pv_same S mk_int q
theorem we_str {n : Str} {k : Nat} (q : Q (.str n) ms) : WE X B ds ms (.Constant (.str n) k pos) Q := WE.pe pe_str fun σ H θ S L => pv_same S mk_str q
theorem we_bl {n : Bool} {k : Nat} (q : Q (.bl n) ms) : WE X B ds ms (.Constant (.bool n) k pos) Q := WE.pe pe_bl fun σ H θ S L => pv_same S mk_bl q
theorem we_non {k : Nat} (q : Q .non ms) : WE X B ds ms (.Constant .none k pos) Q := WE.pe pe_non fun σ H θ S L => pv_same S mk_non q
/-- a constant of the module -/
theorem we_glob {x : Str} {u : Value} {d : D} (hm : X.mg x = some u) (r : ∃ v, RelV v u ∧ ∀ θ H, Rep X.K θ H d v) (q : Q d ms) (hg : Gl X x) (hd : (x == ("__debug__" : Str)) = false := by decide) : WE X B ds ms (.Name x pos) Q :=
  let ⟨v, r1, r2⟩ := r
  WE.pe (pe_glob hg hm r1 hd) fun σ H θ S L => pv_same S (r2 θ H) q
theorem we_globS {x y : Str} {t : Tok} (hm : X.mg x = some (.str y t)) (hg : Gl X x) (q : Q (.str y) ms) (hd : (x == ("__debug__" : Str)) = false := by decide) : WE X B ds ms (.Name x pos) Q :=
  we_glob (d := .str y) hm ⟨.str y, ⟨t, rfl⟩, fun _ _ => mk_str⟩ q hg hd
theorem we_globI {x : Str} {y : Int} {t : Tok} (hm : X.mg x = some (.int y t)) (hg : Gl X x) (q : Q (.int y) ms) (hd : (x == ("__debug__" : Str)) = false := by decide) : WE X B ds ms (.Name x pos) Q :=
  we_glob (d := .int y) hm ⟨.int y, ⟨t, rfl⟩, fun _ _ => mk_int⟩ q hg hd

/-! ### operators -/
def roCan (X : Cx) (f : Value → Value → Sem Value) : R2 := fun x y H Q => ∀ pins s σ v u, Inv X pins σ H s → RelV x v → RelV y u → wpAny (model X.prog X.w) X.A (f v u) (EP X pins σ Q) X.xe s
theorem or_can {f : Value → Value → Sem Value} : OpR X f (roCan X f) := fun pins s σ H x y v u Q I rx ry h => h pins s σ v u I rx ry
def WO (X : Cx) (B : Bs) (ms : List Ob) (f : Value → Value → Sem Value) (d e : D) (Q : D → List Ob → Prop) : Prop :=
  ∀ H θ x y, Sat X.K B θ ms H → Rep X.K θ H d x → Rep X.K θ H e y → roCan X f x y H (PV X.K B θ H Q)
theorem WO.of {f : Value → Value → Sem Value} {r : R2} {d e : D} (h : OpR X f r) (q : ∀ H θ x y, Sat X.K B θ ms H → Rep X.K θ H d x → Rep X.K θ H e y → r x y H (PV X.K B θ H Q)) : WO X B ms f d e Q :=
  fun H θ x y S r1 r2 pins s σ v u I rx ry => h pins s σ H x y v u _ I rx ry (q H θ x y S r1 r2)
theorem roCan.mono {f : Value → Value → Sem Value} {x y : V} {H : Hp} {Q Q' : VK} (h : roCan X f x y H Q) (q : ∀ v H', Q v H' → Q' v H') : roCan X f x y H Q' := fun pins s σ v u I rx ry =>
  thn (h pins s σ v u I rx ry) fun _ _ ⟨v, H', I', r, z⟩ => ⟨v, H', I', r, q v H' z⟩
theorem we_bin {op : Operator} (h : WE X B ds ms a fun d m => WE X B ds m b fun e m2 => WO X B m2 (binaryOp op) d e Q) : WE X B ds ms (.BinOp a op b pos) Q :=
  WE.pe (pe_op or_can pe_can pe_can) fun σ H θ S L => h.bind S L fun d m v H1 more q1 r1 im1 S1 L1 => q1.bind S1 L1 fun e m2 w H2 more2 q2 r2 im2 S2 L2 =>
    (q2 H2 _ v w S2 (Rep.mono (Le.app _ _) im2 _ _ r1) r2).mono fun z H3 hz => (hz.trans im2).trans im1
theorem we_cmp {op : CmpOp} (h : WE X B ds ms a fun d m => WE X B ds m b fun e m2 => WO X B m2 (compareOp op) d e Q) (hm : behindInMarks op b = false := by first | exact nomark _ | rfl) : WE X B ds ms (.Compare a [op] [b] pos) Q :=
  WE.pe (pe_cmpR or_can pe_can pe_can hm) fun σ H θ S L => h.bind S L fun d m v H1 more q1 r1 im1 S1 L1 => q1.bind S1 L1 fun e m2 w H2 more2 q2 r2 im2 S2 L2 =>
    (q2 H2 _ v w S2 (Rep.mono (Le.app _ _) im2 _ _ r1) r2).mono fun z H3 hz => (hz.trans im2).trans im1
def WU (X : Cx) (B : Bs) (ms : List Ob) (f : Value → Sem Value) (d : D) (Q : D → List Ob → Prop) : Prop :=
  ∀ H θ x, Sat X.K B θ ms H → Rep X.K θ H d x → ∀ pins s σ v, Inv X pins σ H s → RelV x v → wpAny (model X.prog X.w) X.A (f v) (EP X pins σ (PV X.K B θ H Q)) X.xe s
theorem we_un {op : UnaryOp} (h : WE X B ds ms a fun d m => WU X B m (unaryOp op) d Q) : WE X B ds ms (.UnaryOp op a pos) Q :=
  WE.pe (pe_un (r := fun x H Q => ∀ pins s σ v, Inv X pins σ H s → RelV x v → wpAny (model X.prog X.w) X.A (unaryOp op v) (EP X pins σ Q) X.xe s) (fun pins s σ H x v Q I r h => h pins s σ v I r) pe_can) fun σ H θ S L =>
    h.bind S L fun d m v H1 more q1 r1 im1 S1 L1 pins s σ' u I r => thn (q1 H1 _ v S1 r1 pins s σ' u I r) fun _ _ ⟨v, H', I', r, z⟩ => ⟨v, H', I', r, z.trans im1⟩
theorem wu_neg {i : Int} (q : Q (.int (-i)) ms) : WU X B ms (unaryOp .USub) (.int i) Q := fun H θ x S r pins s σ v I rv =>
  un_neg pins s σ H x v _ I rv ⟨i, rep_int r, pv_same S mk_int q⟩

theorem wo_I {f : Value → Value → Sem Value} {C : Int → Int → Prop} {g : Int → Int → Int} (h : OpR X f (rI C fun i j => .int (g i j))) {i j : Int} (hc : C i j) (q : Q (.int (g i j)) ms) : WO X B ms f (.int i) (.int j) Q :=
  WO.of h fun H θ x y S r1 r2 => ⟨i, j, rep_int r1, rep_int r2, hc, pv_same S mk_int q⟩
theorem wo_I0 {f : Value → Value → Sem Value} {g : Int → Int → Int} (h : OpR X f (rI0 fun i j => .int (g i j))) {i j : Int} (q : Q (.int (g i j)) ms) : WO X B ms f (.int i) (.int j) Q :=
  WO.of h fun H θ x y S r1 r2 => ⟨i, j, rep_int r1, rep_int r2, pv_same S mk_int q⟩
theorem wo_B0 {f : Value → Value → Sem Value} {g : Int → Int → Bool} (h : OpR X f (rI0 fun i j => .bl (g i j))) {i j : Int} (q : Q (.bl (g i j)) ms) : WO X B ms f (.int i) (.int j) Q :=
  WO.of h fun H θ x y S r1 r2 => ⟨i, j, rep_int r1, rep_int r2, pv_same S mk_bl q⟩
theorem wo_addI {i j : Int} (q : Q (.int (i + j)) ms) : WO X B ms (binaryOp .Add) (.int i) (.int j) Q := wo_I0 op_add q
theorem wo_subI {i j : Int} (q : Q (.int (i - j)) ms) : WO X B ms (binaryOp .Sub) (.int i) (.int j) Q := wo_I0 op_sub q
theorem wo_mulI {i j : Int} (hc : CMul i j) (q : Q (.int (i * j)) ms) : WO X B ms (binaryOp .Mult) (.int i) (.int j) Q := wo_I op_mul hc q
theorem wo_divI {i j : Int} (hc : CDivW i j) (q : Q (.int (i / j)) ms) : WO X B ms (binaryOp .FloorDiv) (.int i) (.int j) Q := wo_I op_fdivW hc q
theorem wo_modI {i j : Int} (hc : 0 < j) (q : Q (.int (i % j)) ms) : WO X B ms (binaryOp .Mod) (.int i) (.int j) Q := wo_I (C := fun _ j => 0 < j) op_mod hc q
theorem wo_powI {i j : Int} (hc : CPow i j) (q : Q (.int (i ^ j.toNat)) ms) : WO X B ms (binaryOp .Pow) (.int i) (.int j) Q := wo_I op_pow hc q
theorem wo_addS {i j : Str} (hc : i.length + j.length ≤ sizeLine) (q : Q (.str (i ++ j)) ms) : WO X B ms (binaryOp .Add) (.str i) (.str j) Q :=
  WO.of op_add_str fun H θ x y S r1 r2 => ⟨i, j, rep_str r1, rep_str r2, hc, pv_same S mk_str q⟩
theorem wo_ltI {i j : Int} (q : Q (.bl (decide (i < j))) ms) : WO X B ms (compareOp .Lt) (.int i) (.int j) Q := wo_B0 op_lt q
theorem wo_leI {i j : Int} (q : Q (.bl (decide (i ≤ j))) ms) : WO X B ms (compareOp .LtE) (.int i) (.int j) Q := wo_B0 op_le q
theorem wo_gtI {i j : Int} (q : Q (.bl (decide (j < i))) ms) : WO X B ms (compareOp .Gt) (.int i) (.int j) Q := wo_B0 op_gt q
theorem wo_geI {i j : Int} (q : Q (.bl (decide (j ≤ i))) ms) : WO X B ms (compareOp .GtE) (.int i) (.int j) Q := wo_B0 op_ge q
theorem wo_eqI {i j : Int} (q : Q (.bl (decide (i = j))) ms) : WO X B ms (compareOp .Eq) (.int i) (.int j) Q :=
  WO.of op_eq fun H θ x y S r1 r2 => by
    rw [rep_int r1, rep_int r2]
    refine ⟨rfl, ?_⟩
    rw [show decide (V.int i = V.int j) = decide (i = j) by simp]
    exact pv_same S mk_bl q
theorem wo_neI {i j : Int} (q : Q (.bl (!decide (i = j))) ms) : WO X B ms (compareOp .NotEq) (.int i) (.int j) Q :=
  WO.of op_ne fun H θ x y S r1 r2 => by
    rw [rep_int r1, rep_int r2]
    refine ⟨rfl, ?_⟩
    rw [show decide (V.int i = V.int j) = decide (i = j) by simp]
    exact pv_same S mk_bl q
theorem wo_eqS {i j : Str} (q : Q (.bl (decide (i = j))) ms) : WO X B ms (compareOp .Eq) (.str i) (.str j) Q :=
  WO.of op_eq fun H θ x y S r1 r2 => by
    rw [rep_str r1, rep_str r2]
    refine ⟨rfl, ?_⟩
    rw [show decide (V.str i = V.str j) = decide (i = j) by simp]
    exact pv_same S mk_bl q
theorem wo_neS {i j : Str} (q : Q (.bl (!decide (i = j))) ms) : WO X B ms (compareOp .NotEq) (.str i) (.str j) Q :=
  WO.of op_ne fun H θ x y S r1 r2 => by
    rw [rep_str r1, rep_str r2]
    refine ⟨rfl, ?_⟩
    rw [show decide (V.str i = V.str j) = decide (i = j) by simp]
    exact pv_same S mk_bl q
/-- tuple + tuple -/
theorem wo_addT {xs ys : List D} (hc : xs.length + ys.length ≤ sizeLine) (q : Q (.tup (xs ++ ys)) ms) : WO X B ms (binaryOp .Add) (.tup xs) (.tup ys) Q :=
  WO.of op_catA fun H θ x y S r1 r2 => by
    obtain ⟨a, vs, rfl, s1, q1⟩ := rep_tup r1
    obtain ⟨b, ws, rfl, s2, q2⟩ := rep_tup r2
    refine ⟨a, b, vs, ws, rfl, rfl, s1, s2, by rw [q1.length, q2.length]; exact hc, fun e => ?_, fun _ e => ?_, fun _ _ p hp => pv_tup S (q1.append q2) hp q⟩
    · subst e
      have : xs = [] := by
        have := q1.length
        cases xs with
        | nil => rfl
        | cons _ _ => simp at this
      subst this
      exact pv_same S (mk_tup s2 q2) q
    · subst e
      have : ys = [] := by
        have := q2.length
        cases ys with
        | nil => rfl
        | cons _ _ => simp at this
      subst this
      rw [List.append_nil] at q
      exact pv_same S (mk_tup s1 q1) q
/-- list + list -/
theorem wo_addL {k l : Nat} {xs ys : List D} (h1 : ms[k]? = some (.lst xs)) (h2 : ms[l]? = some (.lst ys)) (hc : xs.length + ys.length ≤ sizeLine) (q : Q (.obj ms.length) (ms ++ [.lst (xs ++ ys)])) : WO X B ms (binaryOp .Add) (.obj k) (.obj l) Q :=
  WO.of op_cat fun H θ x y S r1 r2 => by
    obtain ⟨a, e1, rfl⟩ := rep_obj r1
    obtain ⟨b, e2, rfl⟩ := rep_obj r2
    obtain ⟨vs, s1, q1⟩ := S.obs k _ a h1 e1
    obtain ⟨ws, s2, q2⟩ := S.obs l _ b h2 e2
    exact ⟨a, b, vs, ws, rfl, rfl, s1, s2, by rw [q1.length, q2.length]; exact hc, fun p hp => pv_lst S (q1.append q2) hp q⟩
/-- text * int -/
theorem wo_mulS {x : Str} {n : Int} (hok : MulOk x n) (q : Q (.str (Txt.mul x n)) ms) : WO X B ms (binaryOp .Mult) (.str x) (.int n) Q := fun H θ v w S r1 r2 pins s σ u u2 I rv rw' => by
  cases rep_str r1
  cases rep_int r2
  obtain ⟨t, rfl⟩ := rv
  obtain ⟨t', rfl⟩ := rw'
  exact PySem.SB.mul hok fun t' k => ⟨.str (Txt.mul x n), H, I.tok k, ⟨t', rfl⟩, pv_same S mk_str q⟩
end
end VL

namespace VL
open PySem PySem.Spec PyProof.Rows L2

section
variable {X : Cx} {B : Bs} {ds : List (Option D)} {ms : List Ob} {Q : D → List Ob → Prop} {a b c : Expr} {pos : Pos}

/-! ## arguments -/
theorem wa_nil {Q : List D → List Ob → Prop} (q : Q [] ms) : WA X B ds ms [] Q := .mk fun σ H θ S L => can_pa pa_nil (show PVs X.K B θ H Q [] H from
  ⟨[], ms, [], mk_nil, ImmP.refl _, by rw [List.append_nil]; exact S, q⟩)
theorem wa_cons {e : Expr} {es : List Expr} {Q : List D → List Ob → Prop} (h : WE X B ds ms e fun d m => WA X B ds m es fun dl m2 => Q (d :: dl) m2)
    (hs : starEach (e :: es) X.env = (false, eval e X.env) :: starEach es X.env := by rfl) : WA X B ds ms (e :: es) Q := .mk fun σ H θ S L =>
  can_pa (pa_cons pe_can pa_can hs) (h.bind S L fun d m v H1 more q1 r1 im1 S1 L1 => q1.bind S1 L1 fun dl m2 vs H2 more2 q2 r2 im2 S2 L2 =>
    ⟨d :: dl, m2, more ++ more2, by rw [← List.append_assoc]; exact mk_cons (Rep.mono (Le.app _ _) im2 _ _ r1) r2, im1.trans im2, by rw [← List.append_assoc]; exact S2, q2⟩)
/-! ## displays -/
theorem we_tup {es : List Expr} {k : Nat} (h : WA X B ds ms es fun dl m => dl.length ≤ sizeLine ∧ Q (.tup dl) m) : WE X B ds ms (.Tuple es k pos) Q :=
  WE.pe (pe_tup pa_can) fun σ H θ S L => h.bind S L fun dl m vs H1 more q1 r1 im1 S1 L1 => ⟨by rw [r1.length]; exact q1.1, fun p hp => (pv_tup S1 r1 hp q1.2).trans im1⟩
theorem we_list {es : List Expr} (h : WA X B ds ms es fun dl m => dl.length ≤ sizeLine ∧ Q (.obj m.length) (m ++ [.lst dl])) : WE X B ds ms (.List es pos) Q :=
  WE.pe (pe_lst pa_can) fun σ H θ S L => h.bind S L fun dl m vs H1 more q1 r1 im1 S1 L1 => ⟨by rw [r1.length]; exact q1.1, fun p hp => (pv_lst S1 r1 hp q1.2).trans im1⟩
theorem we_dict0 (q : Q (.obj ms.length) (ms ++ [.dK []])) : WE X B ds ms (.Dict [] [] pos) Q :=
  WE.pe pe_dnewK fun σ H θ S L d hd => ⟨.obj ms.length, ms ++ [.dK []], [d], mk_obj (by rw [← S.len]; simp), ImmP.new hd, S.alloc (ob := .dK []) hd ⟨[], upd_same, rfl⟩, q⟩

/-! ## calls of built-ins -/
def rcCan (X : Cx) (f : Value) : List V → Hp → VK → Prop := fun xs H Q => ∀ pins s σ us, Inv X pins σ H s → Vals xs us → wpAny (model X.prog X.w) X.A (call f us) (EP X pins σ Q) X.xe s
theorem rc_can {f : Value} : CallR X f (rcCan X f) := fun pins s σ H xs us Q I r h => h pins s σ us I r
def WC (X : Cx) (B : Bs) (ms : List Ob) (f : Value) (dl : List D) (Q : D → List Ob → Prop) : Prop :=
  ∀ H θ vs, Sat X.K B θ ms H → Reps X.K θ H dl vs → rcCan X f vs H (PV X.K B θ H Q)
theorem WC.of {f : Value} {r : List V → Hp → VK → Prop} {dl : List D} (h : CallR X f r) (q : ∀ H θ vs, Sat X.K B θ ms H → Reps X.K θ H dl vs → r vs H (PV X.K B θ H Q)) : WC X B ms f dl Q :=
  fun H θ vs S r1 pins s σ us I rx => h pins s σ H vs us _ I rx (q H θ vs S r1)
theorem rcCan.mono {f : Value} {xs : List V} {H : Hp} {Q Q' : VK} (h : rcCan X f xs H Q) (q : ∀ v H', Q v H' → Q' v H') : rcCan X f xs H Q' := fun pins s σ us I r =>
  thn (h pins s σ us I r) fun _ _ ⟨v, H', I', r, z⟩ => ⟨v, H', I', r, q v H' z⟩
theorem we_callB {x : Str} {p : Pos} {e : Expr} {es : List Expr} {id : String} (hm : X.mg x = none) (hv : bootBuiltins x = some (.builtin id)) (hg : Gl X x)
    (h : WA X B ds ms (e :: es) fun dl m => WC X B m (.builtin id) dl Q) (hn : x ≠ "__name__" := by decide) (hdb : (x == ("__debug__" : Str)) = false := by decide)
    (he : starEach (e :: es) X.env = (false, eval e X.env) :: starEach es X.env := by rfl) (hpl : (backTo pos (starEach es X.env)).any (·.1) = false := by rfl) : WE X B ds ms (.Call (.Name x p) (e :: es) [] pos) Q :=
  WE.pe (pe_callB rc_can hg hm hv pa_can hn hdb he hpl) fun σ H θ S L => h.bind S L fun dl m vs H1 more q1 r1 im1 S1 L1 => (q1 H1 _ vs S1 r1).mono fun v H2 z => z.trans im1
theorem we_callTy {x : Str} {p : Pos} {e : Expr} {es : List Expr} {T : String} (hm : X.mg x = none) (hv : bootBuiltins x = some (.type T)) (hg : Gl X x)
    (h : WA X B ds ms (e :: es) fun dl m => WC X B m (.type T) dl Q) (hn : x ≠ "__name__" := by decide) (hdb : (x == ("__debug__" : Str)) = false := by decide)
    (he : starEach (e :: es) X.env = (false, eval e X.env) :: starEach es X.env := by rfl) (hpl : (backTo pos (starEach es X.env)).any (·.1) = false := by rfl) : WE X B ds ms (.Call (.Name x p) (e :: es) [] pos) Q :=
  WE.pe (pe_callTy rc_can hg hm hv pa_can hn hdb he hpl) fun σ H θ S L => h.bind S L fun dl m vs H1 more q1 r1 im1 S1 L1 => (q1 H1 _ vs S1 r1).mono fun v H2 z => z.trans im1
theorem reps1 {K : PySem.W.Frag} {θ : List Addr} {H : Hp} {d : D} {vs : List V} (h : Reps K θ H [d] vs) : ∃ v, vs = [v] ∧ Rep K θ H d v := by
  obtain ⟨v, vs', rfl, r, rs⟩ := reps_cons h
  rw [reps_nil rs]; exact ⟨v, rfl, r⟩
theorem reps2 {K : PySem.W.Frag} {θ : List Addr} {H : Hp} {d e : D} {vs : List V} (h : Reps K θ H [d, e] vs) : ∃ v w, vs = [v, w] ∧ Rep K θ H d v ∧ Rep K θ H e w := by
  obtain ⟨v, vs', rfl, r, rs⟩ := reps_cons h
  obtain ⟨w, rfl, r2⟩ := reps1 rs
  exact ⟨v, w, rfl, r, r2⟩
theorem wc_abs {i : Int} (q : Q (.int (if i < 0 then -i else i)) ms) : WC X B ms (.builtin "abs") [.int i] Q := WC.of call_abs fun H θ vs S r0 => by
  obtain ⟨v, rfl, r⟩ := reps1 r0
  exact ⟨i, by rw [rep_int r], pv_same S mk_int q⟩
theorem wc_int {i : Int} (q : Q (.int i) ms) : WC X B ms (.type "int") [.int i] Q := WC.of call_int1 fun H θ vs S r0 => by
  obtain ⟨v, rfl, r⟩ := reps1 r0
  exact .inl ⟨i, by rw [rep_int r], pv_same S mk_int q⟩
theorem wc_intB {i : Bool} (q : Q (.int (if i then 1 else 0)) ms) : WC X B ms (.type "int") [.bl i] Q := WC.of call_int1 fun H θ vs S r0 => by
  obtain ⟨v, rfl, r⟩ := reps1 r0
  exact .inr ⟨i, by rw [rep_bl r], pv_same S mk_int q⟩
theorem wc_max {i j : Int} (hc : X.calm = true) (q : Q (.int (if j > i then j else i)) ms) : WC X B ms (.builtin "max") [.int i, .int j] Q := WC.of (call_max2 hc) fun H θ vs S r0 => by
  obtain ⟨v, w, rfl, r1, r2⟩ := reps2 r0
  exact ⟨i, j, by rw [rep_int r1, rep_int r2], pv_same S mk_int q⟩
theorem wc_min {i j : Int} (hc : X.calm = true) (q : Q (.int (if j < i then j else i)) ms) : WC X B ms (.builtin "min") [.int i, .int j] Q := WC.of (call_min2 hc) fun H θ vs S r0 => by
  obtain ⟨v, w, rfl, r1, r2⟩ := reps2 r0
  exact ⟨i, j, by rw [rep_int r1, rep_int r2], pv_same S mk_int q⟩
theorem wc_lenS {x : Str} (hl : x.length ≤ sizeLine) (q : Q (.int x.length) ms) : WC X B ms (.builtin "len") [.str x] Q := WC.of call_len fun H θ vs S r0 => by
  obtain ⟨v, rfl, r⟩ := reps1 r0
  exact ⟨.str x, x.length, by rw [rep_str r], ⟨hl, rfl⟩, pv_same S mk_int q⟩
theorem wc_lenT {xs : List D} (q : Q (.int xs.length) ms) : WC X B ms (.builtin "len") [.tup xs] Q := WC.of call_len fun H θ vs S r0 => by
  obtain ⟨v, rfl, r⟩ := reps1 r0
  obtain ⟨a, ws, rfl, s, rs⟩ := rep_tup r
  exact ⟨.ref a, xs.length, rfl, .inr ⟨ws, s, rs.length.symm⟩, pv_same S mk_int q⟩
theorem wc_lenL {k : Nat} {xs : List D} (h : ms[k]? = some (.lst xs)) (q : Q (.int xs.length) ms) : WC X B ms (.builtin "len") [.obj k] Q := WC.of call_len fun H θ vs S r0 => by
  obtain ⟨v, rfl, r⟩ := reps1 r0
  obtain ⟨a, e, rfl⟩ := rep_obj r
  obtain ⟨ws, s, rs⟩ := S.obs k _ a h e
  exact ⟨.ref a, xs.length, rfl, .inl ⟨ws, SqL.of s, rs.length.symm⟩, pv_same S mk_int q⟩
theorem wc_lenR {xs : List D} (q : Q (.int xs.length) ms) : WC X B ms (.builtin "len") [.rol xs] Q := WC.of call_len fun H θ vs S r0 => by
  obtain ⟨v, rfl, r⟩ := reps1 r0
  obtain ⟨a, ws, rfl, s, rs⟩ := rep_rol r
  exact ⟨.ref a, xs.length, rfl, .inl ⟨ws, s.sq, rs.length.symm⟩, pv_same S mk_int q⟩
theorem wc_tupleL {k : Nat} {xs : List D} (h : ms[k]? = some (.lst xs)) (q : Q (.tup xs) ms) : WC X B ms (.type "tuple") [.obj k] Q := WC.of call_tuple_of fun H θ vs S r0 => by
  obtain ⟨v, rfl, r⟩ := reps1 r0
  obtain ⟨a, e, rfl⟩ := rep_obj r
  obtain ⟨ws, s, rs⟩ := S.obs k _ a h e
  exact ⟨a, ws, rfl, .inl ⟨SqL.of s, fun p hp => pv_tup S rs hp q⟩⟩
theorem wc_tupleT {xs : List D} (q : Q (.tup xs) ms) : WC X B ms (.type "tuple") [.tup xs] Q := WC.of call_tuple_of fun H θ vs S r0 => by
  obtain ⟨v, rfl, r⟩ := reps1 r0
  obtain ⟨a, ws, rfl, s, rs⟩ := rep_tup r
  exact ⟨a, ws, rfl, .inr ⟨s, pv_same S (mk_tup s rs) q⟩⟩
theorem wc_listL {k : Nat} {xs : List D} (h : ms[k]? = some (.lst xs)) (q : Q (.obj ms.length) (ms ++ [.lst xs])) : WC X B ms (.type "list") [.obj k] Q := WC.of call_list_of fun H θ vs S r0 => by
  obtain ⟨v, rfl, r⟩ := reps1 r0
  obtain ⟨a, e, rfl⟩ := rep_obj r
  obtain ⟨ws, s, rs⟩ := S.obs k _ a h e
  exact ⟨a, ws, rfl, .inl (SqL.of s), fun p hp => pv_lst S rs hp q⟩
theorem wc_listT {xs : List D} (q : Q (.obj ms.length) (ms ++ [.lst xs])) : WC X B ms (.type "list") [.tup xs] Q := WC.of call_list_of fun H θ vs S r0 => by
  obtain ⟨v, rfl, r⟩ := reps1 r0
  obtain ⟨a, ws, rfl, s, rs⟩ := rep_tup r
  exact ⟨a, ws, rfl, .inr s, fun p hp => pv_lst S rs hp q⟩

/-! ## subscripts -/
def rixCan (X : Cx) (value slice : Expr) : R2 := fun x y H Q => ∀ pins s σ v u, Inv X pins σ H s → RelV x v → RelV y u → subscripted slice false v u = operate [v, u] (getItem v u) → wpAny (model X.prog X.w) X.A (subscriptTail value slice v u) (EP X pins σ Q) X.xe s
def WX (X : Cx) (B : Bs) (ms : List Ob) (value slice : Expr) (d e : D) (Q : D → List Ob → Prop) : Prop :=
  ∀ H θ x y, Sat X.K B θ ms H → Rep X.K θ H d x → Rep X.K θ H e y → rixCan X value slice x y H (PV X.K B θ H Q)
theorem pe_ixc (hs : PlainIx b) {ta tb : TE} (ha : PE X a ta) (hb : PE X b tb) : PE X (.Subscript a b pos) (tOp (rixCan X a b) ta tb) := by
  refine ⟨fun pins s σ H Q I h => ?_⟩
  exact Subscript_ (binT ha hb I h fun v u s2 x y H2 I2 rx ry q => q pins s2 σ v u I2 rx ry (hs _ _))
theorem rixCan.mono {value slice : Expr} {x y : V} {H : Hp} {Q Q' : VK} (h : rixCan X value slice x y H Q) (q : ∀ v H', Q v H' → Q' v H') : rixCan X value slice x y H Q' := fun pins s σ v u I rx ry hs =>
  thn (h pins s σ v u I rx ry hs) fun _ _ ⟨v, H', I', r, z⟩ => ⟨v, H', I', r, q v H' z⟩
theorem we_ix (h : WE X B ds ms a fun d m => WE X B ds m b fun e m2 => WX X B m2 a b d e Q) (hs : PlainIx b := by exact fun _ _ => rfl) : WE X B ds ms (.Subscript a b pos) Q :=
  WE.pe (pe_ixc hs pe_can pe_can) fun σ H θ S L => h.bind S L fun d m v H1 more q1 r1 im1 S1 L1 => q1.bind S1 L1 fun e m2 w H2 more2 q2 r2 im2 S2 L2 =>
    (q2 H2 _ v w S2 (Rep.mono (Le.app _ _) im2 _ _ r1) r2).mono fun z H3 hz => (hz.trans im2).trans im1
theorem WX.of {r : R2} {d e : D} (h : IxR X r) (q : ∀ H θ x y, Sat X.K B θ ms H → Rep X.K θ H d x → Rep X.K θ H e y → r x y H (PV X.K B θ H Q)) : WX X B ms a b d e Q :=
  fun H θ x y S r1 r2 pins s σ v u I rx ry hs => h a b pins s σ H x y v u _ I rx ry (q H θ x y S r1 r2) hs
theorem wx_T {xs : List D} {i : Int} {d : D} (h : atI xs i = some d) (q : Q d ms) : WX X B ms a b (.tup xs) (.int i) Q := WX.of ix_tup fun H θ x y S r1 r2 => by
  obtain ⟨p, vs, rfl, s, rs⟩ := rep_tup r1
  obtain ⟨v, e, rv⟩ := rs.atI h
  exact ⟨p, vs, i, v, rfl, rep_int r2, s, e, pv_same S rv q⟩
theorem wx_L {k : Nat} {xs : List D} {i : Int} {d : D} (hk : ms[k]? = some (.lst xs)) (h : atI xs i = some d) (q : Q d ms) : WX X B ms a b (.obj k) (.int i) Q := WX.of ix_list fun H θ x y S r1 r2 => by
  obtain ⟨p, e, rfl⟩ := rep_obj r1
  obtain ⟨vs, s, rs⟩ := S.obs k _ p hk e
  obtain ⟨v, e, rv⟩ := rs.atI h
  exact ⟨p, vs, i, v, rfl, rep_int r2, SqL.of s, e, pv_same S rv q⟩
theorem wx_S {z : Str} {i : Int} {c : Nat} (hl : z.length ≤ sizeLine) (h : atI z.cps.toList i = some c) (q : Q (.str ⟨#[c]⟩) ms) : WX X B ms a b (.str z) (.int i) Q := WX.of ix_str fun H θ x y S r1 r2 =>
  ⟨z, i, c, rep_str r1, rep_int r2, hl, h, pv_same S mk_str q⟩
/-- d[k], keys ints or texts -/
def kD : Key → D
  | .inl i => .int i
  | .inr x => .str x
theorem rep_kD {K : PySem.W.Frag} {θ : List Addr} {H : Hp} {k : Key} {v : V} (h : Rep K θ H (kD k) v) : v = kV k := by
  cases k with
  | inl i => exact rep_int h
  | inr x => exact rep_str h
def valD {κ : Type} [DecidableEq κ] (kvs : List (κ × D)) (k : κ) : Option D := (kvs.find? fun kv => decide (kv.1 = k)).map (·.2)
def putD {κ : Type} [DecidableEq κ] (kvs : List (κ × D)) (k : κ) (v : D) : List (κ × D) :=
  if (kvs.any fun kv => decide (kv.1 = k)) = true then kvs.map (fun kv => if kv.1 = k then (kv.1, v) else kv) else kvs ++ [(k, v)]
section
variable {κ : Type} [DecidableEq κ] {K : PySem.W.Frag} {θ : List Addr} {H : Hp}
theorem RepKV.val {k : κ} : ∀ {kvs : List (κ × D)} {vs : List (κ × V)}, RepKV K θ H kvs vs → (∀ d, valD kvs k = some d → ∃ v, valV vs k = some v ∧ Rep K θ H d v) ∧ (valD kvs k = none → valV vs k = none)
  | [], _, h => by
    cases (show _ = [] from h)
    exact ⟨fun d e => (by cases e), fun _ => rfl⟩
  | (k2, d2) :: r, _, h => by
    obtain ⟨v, vs', rfl, r1, rs⟩ := h
    obtain ⟨i1, i2⟩ := RepKV.val (k := k) rs
    by_cases e : k2 = k
    · have e1 : valD ((k2, d2) :: r) k = some d2 := by simp [valD, List.find?_cons, e]
      rw [e1, valV_pos (p := (k2, v)) e]
      exact ⟨fun d q => ⟨v, rfl, by cases q; exact r1⟩, fun q => by cases q⟩
    · have e1 : valD ((k2, d2) :: r) k = valD r k := by simp [valD, List.find?_cons, e]
      rw [e1, valV_neg (p := (k2, v)) e]
      exact ⟨i1, i2⟩
theorem RepKV.length : ∀ {kvs : List (κ × D)} {vs : List (κ × V)}, RepKV K θ H kvs vs → vs.length = kvs.length
  | [], _, h => by cases (show _ = [] from h); rfl
  | _ :: r, _, h => by
    obtain ⟨v, vs', rfl, r1, rs⟩ := h
    simp [RepKV.length rs]
theorem RepKV.any {k : κ} : ∀ {kvs : List (κ × D)} {vs : List (κ × V)}, RepKV K θ H kvs vs → (vs.any fun kv => decide (kv.1 = k)) = (kvs.any fun kv => decide (kv.1 = k))
  | [], _, h => by cases (show _ = [] from h); rfl
  | (k2, d2) :: r, _, h => by
    obtain ⟨v, vs', rfl, r1, rs⟩ := h
    simp [RepKV.any rs]
theorem RepKV.append : ∀ {kvs kvs2 : List (κ × D)} {vs vs2 : List (κ × V)}, RepKV K θ H kvs vs → RepKV K θ H kvs2 vs2 → RepKV K θ H (kvs ++ kvs2) (vs ++ vs2)
  | [], _, _, _, h, h2 => by cases (show _ = [] from h); exact h2
  | (k2, d2) :: r, _, _, _, h, h2 => by
    obtain ⟨v, vs', rfl, r1, rs⟩ := h
    exact ⟨v, vs' ++ _, rfl, r1, RepKV.append rs h2⟩
theorem RepKV.repl {k : κ} {d : D} {w : V} (rd : Rep K θ H d w) : ∀ {kvs : List (κ × D)} {vs : List (κ × V)}, RepKV K θ H kvs vs → RepKV K θ H (kvs.map fun kv => if kv.1 = k then (kv.1, d) else kv) (vs.map fun kv => if kv.1 = k then (kv.1, w) else kv)
  | [], _, h => by cases (show _ = [] from h); rfl
  | (k2, d2) :: r, _, h => by
    obtain ⟨v, vs', rfl, r1, rs⟩ := h
    by_cases e : k2 = k
    · rw [List.map_cons, List.map_cons, if_pos e, if_pos e]
      exact ⟨w, _, rfl, rd, RepKV.repl rd rs⟩
    · rw [List.map_cons, List.map_cons, if_neg e, if_neg e]
      exact ⟨v, _, rfl, r1, RepKV.repl rd rs⟩
theorem RepKV.put {kvs : List (κ × D)} {vs : List (κ × V)} (h : RepKV K θ H kvs vs) (k : κ) {d : D} {w : V} (rd : Rep K θ H d w) : RepKV K θ H (putD kvs k d) (putK vs k w) := by
  unfold putD putK
  rw [h.any (k := k)]
  split
  · exact h.repl rd
  · exact h.append ⟨w, [], rfl, rd, rfl⟩
theorem RepKV.fld {f : Str} : ∀ {fs : List (Str × D)} {vs : List (Str × V)}, RepKV K θ H fs vs → (∀ d, fs.lookup f = some d → ∃ v, vs.lookup f = some v ∧ Rep K θ H d v) ∧ (fs.lookup f = none → vs.lookup f = none)
  | [], _, h => by
    cases (show _ = [] from h)
    exact ⟨fun d e => (by cases e), fun _ => rfl⟩
  | (k2, d2) :: r, _, h => by
    obtain ⟨v, vs', rfl, r1, rs⟩ := h
    obtain ⟨i1, i2⟩ := RepKV.fld (f := f) rs
    rw [List.lookup_cons, List.lookup_cons]
    split
    · exact ⟨fun d q => ⟨v, rfl, by cases q; exact r1⟩, fun q => by cases q⟩
    · exact ⟨i1, i2⟩
end
def putFD (f : Str) (v : D) : List (Str × D) → List (Str × D)
  | [] => [(f, v)]
  | (g, x) :: r => if g = f then (g, v) :: r else (g, x) :: putFD f v r
theorem RepKV.putF {K : PySem.W.Frag} {θ : List Addr} {H : Hp} {f : Str} {d : D} {w : V} (rd : Rep K θ H d w) : ∀ {fs : List (Str × D)} {vs : List (Str × V)}, RepKV K θ H fs vs → RepKV K θ H (putFD f d fs) (L2.putF f w vs)
  | [], _, h => by
    cases (show _ = [] from h)
    exact ⟨w, [], rfl, rd, rfl⟩
  | (k2, d2) :: r, _, h => by
    obtain ⟨v, vs', rfl, r1, rs⟩ := h
    unfold putFD L2.putF
    split
    · exact ⟨w, vs', rfl, rd, rs⟩
    · exact ⟨v, _, rfl, r1, RepKV.putF rd rs⟩
theorem ix_dict (hu : X.A.units + 1 < cLine) : IxR X (fun x y H Q => ∃ a v, x = .ref a ∧ DGet H a y (some v) ∧ Q v H) := by
  intro value slice pins s σ H x y v u Q I rx ry h hs
  obtain ⟨a, w, rfl, g, q⟩ := h
  cases rx
  exact tail_any (dict_typeIs I g) PySem.F.slot_dict_getitem.lookup (d_getItem hu I g ry fun w' s3 I3 rw' => ⟨w, H, I3, rw', q⟩) hs
theorem wx_D {k : Nat} {kvs : List (Key × D)} {y : Key} {d : D} (hu : X.A.units + 1 < cLine) (hk : ms[k]? = some (.dK kvs)) (h : valD kvs y = some d) (q : Q d ms) : WX X B ms a b (.obj k) (kD y) Q := WX.of (ix_dict hu) fun H θ x z S r1 r2 => by
  obtain ⟨p, e, rfl⟩ := rep_obj r1
  obtain ⟨vs, s, rs⟩ := S.obs k _ p hk e
  obtain ⟨v, e2, rv⟩ := (rs.val (k := y)).1 d h
  rw [rep_kD r2]
  exact ⟨p, v, rfl, by rw [← e2]; exact DGet.k s, pv_same S rv q⟩

/-! ## slices -/
def WP (X : Cx) (B : Bs) (ds : List (Option D)) (ms : List Ob) (e : Option Expr) (Q : Option Int → List Ob → Prop) : Prop :=
  match e with
  | none => Q none ms
  | some e => WE X B ds ms e fun d m => ∃ i, d = .int i ∧ Q (some i) m
def toCan (X : Cx) (e : Option Expr) : TO := fun σ H Q => ∀ pins s, Inv X pins σ H s → wpAny (model X.prog X.w) X.A (evalPart e X.env) (fun u s' => ∃ o H', Inv X pins σ H' s' ∧ IsPart u o ∧ Q o H') X.xe s
theorem po_can {e : Option Expr} : PO X e (toCan X e) := ⟨fun pins s _ _ _ I h => h pins s I⟩
theorem can_po {e : Option Expr} {t : TO} (h : PO X e t) {σ : St} {H : Hp} {Q : Option Int → Hp → Prop} (q : t σ H Q) : toCan X e σ H Q := fun pins s I => h.run pins s σ H Q I q
theorem WP.bind {e : Option Expr} {Q' : Option Int → List Ob → Prop} (h : WP X B ds ms e Q') {σ : St} {H : Hp} {θ : List Addr} (S : Sat X.K B θ ms H) (L : Slr X.K θ H ds σ) {R : Option Int → Hp → Prop}
    (q : ∀ o m H1 more, Q' o m → ImmP H H1 → Sat X.K B (θ ++ more) m H1 → Slr X.K (θ ++ more) H1 ds σ → R o H1) : toCan X e σ H R := by
  cases e with
  | none => exact can_po po_none (show R none H from q none ms H [] h (ImmP.refl _) (by rw [List.append_nil]; exact S) (by rw [List.append_nil]; exact L))
  | some e => exact can_po (po_some pe_can) (WE.bind (show WE X B ds ms e _ from h) S L fun d m v H1 more q1 r im S1 L1 => by
      obtain ⟨i, rfl, q1⟩ := q1
      exact ⟨i, rep_int r, q _ _ _ _ q1 im S1 L1⟩)
def rsCan (X : Cx) : V → Option Int → Option Int → Hp → VK → Prop := fun x lo hi H Q => ∀ (pins : List (Addr × Obj)) (s : Shared) (σ : St) (v vl vu : Value) (sl : Addr), Inv X pins σ H s → RelV x v → s.heap.IsSliceOf sl vl vu .none → IsPart vl lo → IsPart vu hi →
    ∃ T id, typeLookup (.type T) "__getitem__" = pure (some (.builtin id)) ∧ s.TypeIs v T ∧ wpAny (model X.prog X.w) X.A (getItem v (.ref sl)) (EP X pins σ Q) X.xe s
theorem rs_can : SlR X (rsCan X) := fun pins s σ H x v vl vu lo hi sl Q I r h1 h2 h3 h => h pins s σ v vl vu sl I r h1 h2 h3
theorem rsCan.mono {x : V} {lo hi : Option Int} {H : Hp} {Q Q' : VK} (h : rsCan X x lo hi H Q) (q : ∀ v H', Q v H' → Q' v H') : rsCan X x lo hi H Q' := fun pins s σ v vl vu sl I r h1 h2 h3 =>
  let ⟨T, id, a1, a2, a3⟩ := h pins s σ v vl vu sl I r h1 h2 h3
  ⟨T, id, a1, a2, thn a3 fun _ _ ⟨v, H', I', r, z⟩ => ⟨v, H', I', r, q v H' z⟩⟩
def WL (X : Cx) (B : Bs) (ms : List Ob) (d : D) (lo hi : Option Int) (Q : D → List Ob → Prop) : Prop :=
  ∀ H θ x, Sat X.K B θ ms H → Rep X.K θ H d x → rsCan X x lo hi H (PV X.K B θ H Q)
theorem WL.of {r : V → Option Int → Option Int → Hp → VK → Prop} {d : D} {lo hi : Option Int} (h : SlR X r) (q : ∀ H θ x, Sat X.K B θ ms H → Rep X.K θ H d x → r x lo hi H (PV X.K B θ H Q)) : WL X B ms d lo hi Q :=
  fun H θ x S r1 pins s σ v vl vu sl I rx h1 h2 h3 => h pins s σ H x v vl vu lo hi sl _ I rx h1 h2 h3 (q H θ x S r1)
theorem we_slice {lo hi : Option Expr} {p2 : Pos} (h : WE X B ds ms a fun d m => WP X B ds m lo fun l m2 => WP X B ds m2 hi fun u m3 => WL X B m3 d l u Q) : WE X B ds ms (.Subscript a (.Slice lo hi none p2) pos) Q :=
  WE.pe (pe_slice rs_can pe_can po_can po_can) fun σ H θ S L => h.bind S L fun d m v H1 more q1 r1 im1 S1 L1 => q1.bind S1 L1 fun l m2 H2 more2 q2 im2 S2 L2 => q2.bind S2 L2 fun u m3 H3 more3 q3 im3 S3 L3 =>
    (q3 H3 _ v S3 (Rep.mono (Le.app _ _) im3 _ _ (Rep.mono (Le.app _ _) im2 _ _ r1))).mono fun z H4 hz => ((hz.trans im3).trans im2).trans im1
theorem wl_S {z : Str} {lo hi : Option Int} (hz : z.length ≤ sizeLine) (q : Q (.str (cutS z lo hi)) ms) : WL X B ms (.str z) lo hi Q := WL.of sl_str fun H θ x S r => ⟨z, rep_str r, hz, pv_same S mk_str q⟩
theorem wl_L {k : Nat} {xs : List D} {lo hi : Option Int} (hk : ms[k]? = some (.lst xs)) (q : Q (.obj ms.length) (ms ++ [.lst (cutD xs lo hi)])) : WL X B ms (.obj k) lo hi Q := WL.of sl_list fun H θ x S r => by
  obtain ⟨p, e, rfl⟩ := rep_obj r
  obtain ⟨vs, s, rs⟩ := S.obs k _ p hk e
  exact ⟨p, vs, rfl, SqL.of s, fun l hl => pv_lst S (rs.cut lo hi) hl q⟩
theorem wl_R {xs : List D} {lo hi : Option Int} (q : Q (.obj ms.length) (ms ++ [.lst (cutD xs lo hi)])) : WL X B ms (.rol xs) lo hi Q := WL.of sl_list fun H θ x S r => by
  obtain ⟨p, vs, rfl, s, rs⟩ := rep_rol r
  exact ⟨p, vs, rfl, s.sq, fun l hl => pv_lst S (rs.cut lo hi) hl q⟩
theorem wl_T {xs : List D} {lo hi : Option Int} (q : Q (.tup (cutD xs lo hi)) ms) : WL X B ms (.tup xs) lo hi Q := WL.of sl_tupA fun H θ x S r => by
  obtain ⟨p, vs, rfl, s, rs⟩ := rep_tup r
  refine ⟨p, vs, rfl, s, fun hw => ?_, fun hw l hl => pv_tup S (rs.cut lo hi) hl q⟩
  have e : cutD xs lo hi = xs := by
    unfold cutD
    rw [rs.length] at hw
    rw [hw.1, hw.2]
    simp
  rw [e] at q
  exact pv_same S (mk_tup s rs) q
/-- xs[::-1] -/
theorem we_revL {k : Nat} {p1 p2 p3 : Pos} (h : WE X B ds ms a fun d m => ∃ j xs, d = .obj j ∧ m[j]? = some (.lst xs) ∧ Q (.obj m.length) (m ++ [.lst xs.reverse])) :
    WE X B ds ms (.Subscript a (.Slice none none (some (.UnaryOp .USub (.Constant (.int 1) k p1) p2)) p3) pos) Q :=
  WE.pe (pe_revL pe_can) fun σ H θ S L => h.bind S L fun d m v H1 more q1 r1 im1 S1 L1 => by
    obtain ⟨j, xs, rfl, hj, q1⟩ := q1
    obtain ⟨p, e, rfl⟩ := rep_obj r1
    obtain ⟨vs, s, rs⟩ := S1.obs j _ p hj e
    exact ⟨p, vs, rfl, SqL.of s, fun l hl => (pv_lst S1 rs.reverse hl q1).trans im1⟩

/-! ## attributes -/
theorem we_attr {f : Str} (h : WE X B ds ms a fun d m => ∃ k C fs e, d = .obj k ∧ m[k]? = some (.ins C fs) ∧ Cls X.K C ∧ NoAttr X.K C f ∧ fs.lookup f = some e ∧ Q e m) (hb : attributeBase a f X.env (eval a X.env) = eval a X.env := by rfl) :
    WE X B ds ms (.Attribute a f pos) Q :=
  WE.pe (pe_fld pe_can hb) fun σ H θ S L => h.bind S L fun d m v H1 more q1 r1 im1 S1 L1 => by
    obtain ⟨k, C, fs, e, rfl, hk, c, n, l, q1⟩ := q1
    obtain ⟨p, e2, rfl⟩ := rep_obj r1
    obtain ⟨dx, vs, s, rs⟩ := S1.obs k _ p hk e2
    obtain ⟨w, l2, rw'⟩ := (rs.fld (f := f)).1 e l
    exact ⟨p, C, dx, vs, w, rfl, s, c, n, l2, (pv_same S1 rw' q1).trans im1⟩

/-! ## methods of built-in types -/
def rmCan (X : Cx) (id : String) : V → List V → Hp → VK → Prop := fun x xs H Q => ∀ pins s σ v us, Inv X pins σ H s → RelV x v → Vals xs us → wpAny (model X.prog X.w) X.A (call (.builtin id) (v :: us)) (EP X pins σ Q) X.xe s
theorem rm_can {id : String} : MtR X id (rmCan X id) := fun pins s σ H x xs v us Q I r rs h => h pins s σ v us I r rs
theorem rmCan.mono {id : String} {x : V} {xs : List V} {H : Hp} {Q Q' : VK} (h : rmCan X id x xs H Q) (q : ∀ v H', Q v H' → Q' v H') : rmCan X id x xs H Q' := fun pins s σ v us I r rs =>
  thn (h pins s σ v us I r rs) fun _ _ ⟨v, H', I', r, z⟩ => ⟨v, H', I', r, q v H' z⟩
def WM (X : Cx) (B : Bs) (ms : List Ob) (id : String) (d : D) (dl : List D) (Q : D → List Ob → Prop) : Prop :=
  ∀ H θ x vs, Sat X.K B θ ms H → Rep X.K θ H d x → Reps X.K θ H dl vs → rmCan X id x vs H (PV X.K B θ H Q)
theorem WM.of {id : String} {r : V → List V → Hp → VK → Prop} {d : D} {dl : List D} (h : MtR X id r) (q : ∀ H θ x vs, Sat X.K B θ ms H → Rep X.K θ H d x → Reps X.K θ H dl vs → r x vs H (PV X.K B θ H Q)) : WM X B ms id d dl Q :=
  fun H θ x vs S r1 r2 pins s σ v us I rx rs => h pins s σ H x vs v us _ I rx rs (q H θ x vs S r1 r2)
/-- the datum is of that built-in type -/
def TyD (T : String) (d : D) (ms : List Ob) : Prop := match d with
  | .str _ => T = "str"
  | .int _ => T = "int"
  | .obj k => (T = "list" ∧ ∃ xs, ms[k]? = some (.lst xs)) ∨ (T = "dict" ∧ ∃ kvs, ms[k]? = some (.dK kvs)) ∨ (T = "dict" ∧ ∃ kvs, ms[k]? = some (.dT kvs))
  | _ => False
theorem TyD.tyV {K : PySem.W.Frag} {B : Bs} {θ : List Addr} {H : Hp} {T : String} {d : D} {v : V} (h : TyD T d ms) (S : Sat K B θ ms H) (r : Rep K θ H d v) : tyV K T v H := by
  cases d with
  | str x => rw [rep_str r]; exact h
  | int x => rw [rep_int r]; exact h
  | obj k =>
    obtain ⟨a, e, rfl⟩ := rep_obj r
    rcases h with ⟨rfl, xs, h⟩ | ⟨rfl, xs, h⟩ | ⟨rfl, xs, h⟩
    · obtain ⟨vs, s, _⟩ := S.obs k _ a h e
      exact .inl ⟨rfl, vs, SqL.of s⟩
    · obtain ⟨vs, s, _⟩ := S.obs k _ a h e
      exact .inr (.inr (.inl ⟨rfl, .inl ⟨vs, s⟩⟩))
    · obtain ⟨vs, s, _⟩ := S.obs k _ a h e
      exact .inr (.inr (.inl ⟨rfl, .inr ⟨vs, s⟩⟩))
  | _ => exact h.elim
theorem we_bm {T id : String} {name : Str} {apos : Pos} {e : Expr} {es : List Expr} (pa : PlainAttrs T) (slot : Slot T name id) (hty : typeOf (.builtin id) = pure (.type "method_descriptor"))
    (h : WE X B ds ms a fun d m => TyD T d m ∧ WA X B ds m (e :: es) fun dl m2 => WM X B m2 id d dl Q)
    (hbase : attributeBase a name X.env (eval a X.env) = eval a X.env := by rfl)
    (hfew : ((backTo pos (starEach (e :: es) X.env)).all (fun x => !x.1) && (backToKw pos (keywordEach [] X.env)).all (fun x => x.1.isSome)
      && decide ((e :: es).length + ([] : List Keyword).length + (if ([] : List Keyword).isEmpty then 0 else 1) < 30)) = true := by rfl)
    (hline : (apos.endLine == pos.line) = true := by rfl) (hs : starEach (e :: es) X.env = (false, eval e X.env) :: starEach es X.env := by rfl) (hplain : (backTo pos (starEach es X.env)).any (·.1) = false := by rfl) :
    WE X B ds ms (.Call (.Attribute a name apos) (e :: es) [] pos) Q :=
  WE.pe (pe_bm pa slot hty rm_can pe_can pa_can hbase hfew hline hs hplain) fun σ H θ S L => h.bind S L fun d m v H1 more q1 r1 im1 S1 L1 => ⟨q1.1.tyV S1 r1, q1.2.bind S1 L1 fun dl m2 vs H2 more2 q2 r2 im2 S2 L2 =>
    (q2 H2 _ v vs S2 (Rep.mono (Le.app _ _) im2 _ _ r1) r2).mono fun z H3 hz => (hz.trans im2).trans im1⟩
theorem we_bm0 {T id : String} {name : Str} {apos : Pos} (pa : PlainAttrs T) (slot : Slot T name id) (hty : typeOf (.builtin id) = pure (.type "method_descriptor"))
    (h : WE X B ds ms a fun d m => TyD T d m ∧ WM X B m id d [] Q)
    (hbase : attributeBase a name X.env (eval a X.env) = eval a X.env := by rfl) (hline : (apos.endLine == pos.line) = true := by rfl) : WE X B ds ms (.Call (.Attribute a name apos) [] [] pos) Q :=
  WE.pe (pe_bm0 pa slot hty rm_can pe_can hbase hline) fun σ H θ S L => h.bind S L fun d m v H1 more q1 r1 im1 S1 L1 => ⟨q1.1.tyV S1 r1, (q1.2 H1 _ v [] S1 r1 mk_nil).mono fun z H3 hz => hz.trans im1⟩
theorem wm_append {k : Nat} {xs : List D} {d : D} (hk : ms[k]? = some (.lst xs)) (hl : xs.length < sizeLine) (q : Q .non (ms.set k (.lst (xs ++ [d])))) : WM X B ms "list.append" (.obj k) [d] Q := WM.of mt_append fun H θ x vs S r r0 => by
  obtain ⟨a, e, rfl⟩ := rep_obj r
  obtain ⟨w, rfl, rw'⟩ := reps1 r0
  obtain ⟨vs, s, rs⟩ := S.obs k _ a hk e
  exact ⟨a, vs, w, rfl, rfl, s, by rw [rs.length]; exact hl, pv_set S e (rs.append (mk_cons rw' mk_nil)) mk_non q⟩
theorem wm_extend {k j : Nat} {xs ys : List D} (hk : ms[k]? = some (.lst xs)) (hj : ms[j]? = some (.lst ys)) (hl : xs.length + ys.length ≤ sizeLine) (q : Q .non (ms.set k (.lst (xs ++ ys)))) : WM X B ms "list.extend" (.obj k) [.obj j] Q := WM.of mt_extend fun H θ x vs S r r0 => by
  obtain ⟨a, e, rfl⟩ := rep_obj r
  obtain ⟨w, rfl, rw'⟩ := reps1 r0
  obtain ⟨b, e2, rfl⟩ := rep_obj rw'
  obtain ⟨vs, s, rs⟩ := S.obs k _ a hk e
  obtain ⟨ws, s2, rs2⟩ := S.obs j _ b hj e2
  exact ⟨a, b, vs, ws, rfl, rfl, s, s2, by rw [rs.length, rs2.length]; exact hl, pv_set S e (rs.append rs2) mk_non q⟩
theorem mt_ljustF : MtR X "str.ljust" (fun x xs H Q => ∃ (a : Str) (i : Int) (f : Str), x = .str a ∧ xs = [.int i, .str f] ∧ PadOk i = true ∧ f.length = 1 ∧ Q (.str (Txt.ljustF a i (f.cps.getD 0 0))) H) := by
  intro pins s σ H x xs v us Q I rx rs h
  obtain ⟨a, i, f, rfl, rfl, hc, hf, h⟩ := h
  obtain ⟨t, rfl⟩ := rx
  obtain ⟨u, u2, rfl, ⟨t2, rfl⟩, ⟨t3, rfl⟩⟩ := Vals.two rs
  exact ljust_fill hc hf fun t' k => ⟨.str (Txt.ljustF a i (f.cps.getD 0 0)), H, I.tok k, ⟨t', rfl⟩, h⟩
theorem wm_ljust {x f : Str} {i : Int} (hi : PadOk i = true) (hf : f.length = 1) (q : Q (.str (Txt.ljustF x i (f.cps.getD 0 0))) ms) : WM X B ms "str.ljust" (.str x) [.int i, .str f] Q := WM.of mt_ljustF fun H θ y vs S r r0 => by
  obtain ⟨v, w, rfl, r1, r2⟩ := reps2 r0
  exact ⟨x, i, f, rep_str r, by rw [rep_int r1, rep_str r2], hi, hf, pv_same S mk_str q⟩
theorem wm_join {x : Str} {k : Nat} {ys : List Str} (hk : ms[k]? = some (.lst (ys.map D.str))) (hl : (ys.map (·.length)).sum + ys.length * x.length ≤ 16777216) (q : Q (.str (Txt.join x ys)) ms) : WM X B ms "str.join" (.str x) [.obj k] Q := WM.of mt_join fun H θ y vs S r r0 => by
  obtain ⟨v, rfl, r1⟩ := reps1 r0
  obtain ⟨a, e, rfl⟩ := rep_obj r1
  obtain ⟨ws, s, rs⟩ := S.obs k _ a hk e
  exact ⟨x, a, ys, rep_str r, rfl, .inl (SqL.of (by rw [← rs.strs]; exact s)), hl, pv_same S mk_str q⟩

/-! ## tests -/
theorem WT.pt {e : Expr} {t : TT} {Q : Bool → List Ob → Prop} (h : PT X e t) (q : ∀ σ H θ, Sat X.K B θ ms H → Slr X.K θ H ds σ → t σ H (PT' X.K B θ H Q)) : WT X B ds ms e Q := .mk fun σ H θ S L => can_pt h (q σ H θ S L)
theorem pt_same {K : PySem.W.Frag} {θ : List Addr} {H : Hp} {Q : Bool → List Ob → Prop} {b : Bool} (S : Sat K B θ ms H) (q : Q b ms) : PT' K B θ H Q b H := ⟨ms, [], ImmP.refl _, by rw [List.append_nil]; exact S, q⟩
section
variable {Q : Bool → List Ob → Prop}
/-- a comparison as a test -/
theorem wt_cmp {op : CmpOp} (h : WE X B ds ms a fun d m => WE X B ds m b fun e m2 => WO X B m2 (compareOp op) d e fun r m3 => ∃ k, r = .bl k ∧ Q k m3) (hm : behindInMarks op b = false := by first | exact nomark _ | rfl) : WT X B ds ms (.Compare a [op] [b] pos) Q :=
  WT.pt (pt_cmpR or_can pe_can pe_can hm) fun σ H θ S L => h.bind S L fun d m v H1 more q1 r1 im1 S1 L1 => q1.bind S1 L1 fun e m2 w H2 more2 q2 r2 im2 S2 L2 =>
    (q2 H2 _ v w S2 (Rep.mono (Le.app _ _) im2 _ _ r1) r2).mono fun z H3 ⟨d3, m3, more3, r3, im3, S3, k, e3, q3⟩ => by
      subst e3
      exact ⟨k, rep_bl r3, PT'.trans im1 (PT'.trans im2 ⟨m3, more3, im3, S3, q3⟩)⟩
/-- an expression that gives a truth value -/
theorem wt_val {e : Expr} (h : WE X B ds ms e fun d m => ∃ k, d = .bl k ∧ Q k m) (he : ∀ whole, isTrue e X.env whole = (do let v ← whole; standAt e.pos; holding [v] (truthy v)) := by intro _; rfl) : WT X B ds ms e Q :=
  WT.pt (pt_val pe_can he) fun σ H θ S L => h.bind S L fun d m v H1 more ⟨k, e, q⟩ r1 im1 S1 L1 => by
    subst e
    exact ⟨k, rep_bl r1, PT'.trans im1 (pt_same S1 q)⟩
theorem wt_and1 (h : WT X B ds ms a Q) : WW X B ds ms (.BoolOp .And [a] pos) Q := .mk fun σ H θ S L => can_pw (pw_and1 pt_can) (h σ H θ S L)
theorem wt_or1 (h : WT X B ds ms a Q) : WW X B ds ms (.BoolOp .Or [a] pos) Q := .mk fun σ H θ S L => can_pw (pw_or1 pt_can) (h σ H θ S L)
theorem wt_and2 {rest : List Expr} (h : WT X B ds ms a fun k m => (k = true → WW X B ds m (.BoolOp .And (b :: rest) pos) Q) ∧ (k = false → Q false m)) : WW X B ds ms (.BoolOp .And (a :: b :: rest) pos) Q := .mk fun σ H θ S L =>
  can_pw (pw_and pt_can pw_can) (h.bind S L fun k m H1 more q im S1 L1 => by
    cases k with
    | true => exact fun wh pins s I => thn ((q.1 rfl) σ H1 _ S1 L1 wh pins s I) fun _ _ ⟨H', I', z⟩ => ⟨H', I', PT'.trans im z⟩
    | false => exact PT'.trans im (pt_same S1 (q.2 rfl)))
theorem wt_or2 {rest : List Expr} (h : WT X B ds ms a fun k m => (k = false → WW X B ds m (.BoolOp .Or (b :: rest) pos) Q) ∧ (k = true → Q true m)) : WW X B ds ms (.BoolOp .Or (a :: b :: rest) pos) Q := .mk fun σ H θ S L =>
  can_pw (pw_or pt_can pw_can) (h.bind S L fun k m H1 more q im S1 L1 => by
    cases k with
    | false => exact fun wh pins s I => thn ((q.1 rfl) σ H1 _ S1 L1 wh pins s I) fun _ _ ⟨H', I', z⟩ => ⟨H', I', PT'.trans im z⟩
    | true => exact PT'.trans im (pt_same S1 (q.2 rfl)))
theorem wt_w {e : Expr} (h : WW X B ds ms e Q) : WT X B ds ms e Q := .mk fun σ H θ S L => can_pt (PW.pt pw_can) (h σ H θ S L)
theorem wt_not (h : WT X B ds ms a fun k m => Q (!k) m) : WT X B ds ms (.UnaryOp .Not a pos) Q :=
  WT.pt (pt_not pt_can) fun σ H θ S L => h.bind S L fun k m H1 more q im S1 L1 => PT'.trans im (pt_same S1 q)
end
theorem we_ifExp (h : WT X B ds ms c fun k m => (k = true → WE X B ds m a Q) ∧ (k = false → WE X B ds m b Q)) : WE X B ds ms (.IfExp c a b pos) Q :=
  WE.pe (pe_ifExp pt_can pe_can pe_can) fun σ H θ S L => h.bind S L fun k m H1 more q im S1 L1 => by
    cases k with
    | true => exact ((q.1 rfl) σ H1 _ S1 L1).mono fun v H2 z => z.trans im
    | false => exact ((q.2 rfl) σ H1 _ S1 L1).mono fun v H2 z => z.trans im
end
end VL

namespace VL
open PySem PySem.Spec PyProof.Rows L2

/-! ## statements -/
section
variable {K : PySem.W.Frag} {B : Bs} {fl : Nat} {θ θ' : List Addr} {H H' : Hp}
theorem nxOf.trans {N : List (Option D) → List Ob → Prop} (im : ImmP H H') (t : θ'.take fl = θ.take fl) {σ : St} {H2 : Hp} (h : nxOf K B fl θ' H' N σ H2) : nxOf K B fl θ H N σ H2 :=
  let ⟨ds, ms, θ2, L, im2, t2, S, q⟩ := h
  ⟨ds, ms, θ2, L, im.trans im2, t2.trans t, S, q⟩
theorem rtOf.trans {R : D → List Ob → Prop} (im : ImmP H H') (t : θ'.take fl = θ.take fl) {v : V} {H2 : Hp} (h : rtOf K B fl θ' H' R v H2) : rtOf K B fl θ H R v H2 :=
  let ⟨d, ms, θ2, r, im2, t2, S, q⟩ := h
  ⟨d, ms, θ2, r, im.trans im2, t2.trans t, S, q⟩
theorem nxOf.imp {N N' : List (Option D) → List Ob → Prop} (hq : ∀ d m, N d m → N' d m) {σ : St} {H2 : Hp} (h : nxOf K B fl θ H N σ H2) : nxOf K B fl θ H N' σ H2 :=
  let ⟨ds, ms, θ2, L, im2, t2, S, q⟩ := h
  ⟨ds, ms, θ2, L, im2, t2, S, hq _ _ q⟩
theorem take_app {more : List Addr} (h : fl ≤ θ.length) : (θ ++ more).take fl = θ.take fl := List.take_append_of_le_length h
end
section
variable {X : Cx} {B : Bs} {fl : Nat} {ds : List (Option D)} {ms : List Ob} {E : En} {pos : Pos}
theorem WSs.moved {st : List Stmt} {θ θ' : List Addr} {H H' : Hp} {σ : St} (h : WSs X B fl ds ms st E) (hf : fl ≤ θ'.length) (S : Sat X.K B θ' ms H') (L : Slr X.K θ' H' ds σ) (im : ImmP H H') (t : θ'.take fl = θ.take fl) :
    tssCan X st (enOf X.K B fl θ H E) σ H' :=
  (h σ H' θ' hf S L).imp (fun _ _ q => nxOf.trans im t q) (fun _ _ q => rtOf.trans im t q) (fun _ _ q => nxOf.trans im t q) (fun _ _ q => nxOf.trans im t q)
theorem wss_nil (q : E.nx ds ms) : WSs X B fl ds ms [] E := .mk fun σ H θ hf S L => can_pss pss_nil (show nxOf X.K B fl θ H E.nx σ H from ⟨ds, ms, θ, L, ImmP.refl _, rfl, S, q⟩)
theorem len_of {θ θ' : List Addr} (t : θ'.take fl = θ.take fl) (h : fl ≤ θ.length) : fl ≤ θ'.length := by
  have := congrArg List.length t
  rw [List.length_take, List.length_take] at this
  omega
theorem wss_cons {st : Stmt} {rest : List Stmt} (h : WS X B fl ds ms st { E with nx := fun ds' m' => WSs X B fl ds' m' rest E }) : WSs X B fl ds ms (st :: rest) E := .mk fun σ H θ hf S L =>
  can_pss (pss_cons ps_can pss_can) ((h σ H θ hf S L).imp (fun σ' H' ⟨ds', ms', θ', L', im, t, S', q⟩ => q.moved (len_of t hf) S' L' im t) (fun _ _ q => q) (fun _ _ q => q) (fun _ _ q => q))
theorem wss_one {st : Stmt} (h : WS X B fl ds ms st E) : WSs X B fl ds ms [st] E := .mk fun σ H θ hf S L => can_pss (pss_one ps_can) (h σ H θ hf S L)
theorem ws_pass (q : E.nx ds ms) : WS X B fl ds ms (.Pass pos) E := .mk fun σ H θ hf S L => can_ps ps_pass (show nxOf X.K B fl θ H E.nx σ H from ⟨ds, ms, θ, L, ImmP.refl _, rfl, S, q⟩)
theorem ws_break (q : E.bk ds ms) : WS X B fl ds ms (.Break pos) E := .mk fun σ H θ hf S L => can_ps ps_break (show nxOf X.K B fl θ H E.bk σ H from ⟨ds, ms, θ, L, ImmP.refl _, rfl, S, q⟩)
theorem ws_doc {x : Str} {j : Nat} {pos' : Pos} (q : E.nx ds ms) : WS X B fl ds ms (.Expr (.Constant (.str x) j pos) pos') E := .mk fun σ H θ hf S L => can_ps ps_doc (show nxOf X.K B fl θ H E.nx σ H from ⟨ds, ms, θ, L, ImmP.refl _, rfl, S, q⟩)
theorem ws_ret {e : Expr} (h : WE X B ds ms e E.rt) : WS X B fl ds ms (.Return (some e) pos) E := .mk fun σ H θ hf S L => can_ps (ps_ret pe_can) (h.bind S L fun d m v H1 more q r im S1 L1 =>
  ⟨d, m, θ ++ more, r, im, take_app hf, S1, q⟩)
theorem ws_retN (q : E.rt .non ms) : WS X B fl ds ms (.Return none pos) E := .mk fun σ H θ hf S L => can_ps ps_retN ⟨.non, ms, θ, mk_non, ImmP.refl _, rfl, S, q⟩
theorem ws_expr {e : Expr} (h : WE X B ds ms e fun _ m => E.nx ds m) (hs : swapsWith e none pos.line X.env = pure false := by rfl) : WS X B fl ds ms (.Expr e pos) E := .mk fun σ H θ hf S L => can_ps (ps_expr pe_can hs) (h.bind S L fun d m v H1 more q r im S1 L1 =>
  ⟨ds, m, θ ++ more, L1, im, take_app hf, S1, q⟩)
theorem ws_set (i : Nat) {x : Str} {e : Expr} {pos' : Pos} (hN : X.N.Nodup) (hi : X.N[i]? = some x) (hx : Loc X.env.scope x) (hf' : X.fn x = true ∨ X.env.scope.names.lookup x = some .local) (h : WE X B ds ms e fun d m => E.nx (ds.set i (some d)) m)
    (hs : swapsWith e (some (.Name x pos')) pos.line X.env = pure false := by rfl) : WS X B fl ds ms (.Assign [.Name x pos'] e pos) E := .mk fun σ H θ hf S L =>
  can_ps (ps_set hN hi hx pe_can hs hf') (h.bind S L fun d m v H1 more q r im S1 L1 => ⟨ds.set i (some d), m, θ ++ more, L1.set r i, im, take_app hf, S1, q⟩)
theorem ws_if {c : Expr} {a b : List Stmt} (h : WT X B ds ms c fun k m => (k = true → WSs X B fl ds m a E) ∧ (k = false → WSs X B fl ds m b E)) : WS X B fl ds ms (.If c a b pos) E := .mk fun σ H θ hf S L =>
  can_ps (ps_if pt_can pss_can pss_can) (h.bind S L fun k m H1 more q im S1 L1 => by
    have hf2 : fl ≤ (θ ++ more).length := by rw [List.length_append]; omega
    cases k with
    | true => exact (q.1 rfl).moved hf2 S1 L1 im (take_app hf)
    | false => exact (q.2 rfl).moved hf2 S1 L1 im (take_app hf))

/-! ## targets -/
theorem WG.pg {tg : Expr} {t : TG} {d : D} {N : List (Option D) → List Ob → Prop} (h : PG X tg t) (q : ∀ σ H θ v, Sat X.K B θ ms H → Slr X.K θ H ds σ → Rep X.K θ H d v →
    t v σ H fun σ' H' => ∃ ds' ms' more, Slr X.K (θ ++ more) H' ds' σ' ∧ ImmP H H' ∧ Sat X.K B (θ ++ more) ms' H' ∧ N ds' ms') : WG X B ds ms tg d N := .mk fun σ H θ v S L r => can_pg h (q σ H θ v S L r)
theorem WG.bind {tg : Expr} {d : D} {N : List (Option D) → List Ob → Prop} (h : WG X B ds ms tg d N) {σ : St} {H : Hp} {θ : List Addr} {v : V} (S : Sat X.K B θ ms H) (L : Slr X.K θ H ds σ) (r : Rep X.K θ H d v) {R : St → Hp → Prop}
    (q : ∀ ds' ms' more σ' H', N ds' ms' → Slr X.K (θ ++ more) H' ds' σ' → ImmP H H' → Sat X.K B (θ ++ more) ms' H' → R σ' H') : tgCan X tg v σ H R :=
  (h σ H θ v S L r).mono fun σ' H' ⟨ds', ms', more, L', im, S', n⟩ => q ds' ms' more σ' H' n L' im S'
theorem wg_name (i : Nat) {x : Str} {d : D} {N : List (Option D) → List Ob → Prop} (hN : X.N.Nodup) (hi : X.N[i]? = some x) (hx : Loc X.env.scope x) (hf' : X.fn x = true ∨ X.env.scope.names.lookup x = some .local) (q : N (ds.set i (some d)) ms) : WG X B ds ms (.Name x pos) d N :=
  WG.pg (pg_name hN hi hx hf') fun σ H θ v S L r => ⟨ds.set i (some d), ms, [], by rw [List.append_nil]; exact L.set r i, ImmP.refl _, by rw [List.append_nil]; exact S, q⟩
/-- several targets -/
def WGs (X : Cx) (B : Bs) (ds : List (Option D)) (ms : List Ob) (es : List Expr) (dl : List D) (N : List (Option D) → List Ob → Prop) : Prop :=
  match es, dl with
  | [], [] => N ds ms
  | e :: es, d :: dl => WG X B ds ms e d fun ds' ms' => WGs X B ds' ms' es dl N
  | _, _ => False
def tgsCan (X : Cx) (es : List Expr) : TGs := fun vs σ H Q => ∀ pins s us, Inv X pins σ H s → Vals vs us → wpAny (model X.prog X.w) X.A (assignInOrder ((assignEach es X.env).map (·.2)) us) (fun _ s' => ∃ σ' H', Inv X pins σ' H' s' ∧ Q σ' H') X.xe s
theorem pgs_can {es : List Expr} : PGs X es (tgsCan X es) := ⟨fun pins s σ H vs us Q I r h => h pins s us I r⟩
theorem WGs.can {N : List (Option D) → List Ob → Prop} : ∀ (es : List Expr) (hst : ∀ e es', (assignEach (e :: es') X.env).map (·.2) = assign e X.env :: (assignEach es' X.env).map (·.2) ∨ ¬ ∃ pre, es = pre ++ e :: es') {dl : List D} {ds : List (Option D)} {ms : List Ob}, WGs X B ds ms es dl N →
    ∀ σ H θ vs, Sat X.K B θ ms H → Slr X.K θ H ds σ → Reps X.K θ H dl vs → tgsCan X es vs σ H fun σ' H' => ∃ ds' ms' more, Slr X.K (θ ++ more) H' ds' σ' ∧ ImmP H H' ∧ Sat X.K B (θ ++ more) ms' H' ∧ N ds' ms'
  | [], _, [], ds, ms, h, σ, H, θ, vs, S, L, r => by
    intro pins s us I rv
    rw [reps_nil r] at rv
    exact pgs_nil.run pins s σ H [] us _ I rv ⟨rfl, ds, ms, [], by rw [List.append_nil]; exact L, ImmP.refl _, by rw [List.append_nil]; exact S, h⟩
  | [], _, _ :: _, _, _, h, _, _, _, _, _, _, _ => h.elim
  | e :: es, _, [], _, _, h, _, _, _, _, _, _, _ => h.elim
  | e :: es, hst, d :: dl, ds, ms, h, σ, H, θ, vs, S, L, r => by
    obtain ⟨v, vs', rfl, r1, rs⟩ := reps_cons r
    intro pins s us I rv
    refine (pgs_cons pg_can pgs_can ((hst e es).resolve_right fun z => z ⟨[], rfl⟩)).run pins s σ H _ us _ I rv ⟨v, vs', rfl, ?_⟩
    refine WG.bind (show WG X B ds ms e d _ from h) S L r1 fun ds' ms' more σ' H' n L' im S' => ?_
    intro pins s us I rv
    have hst' : ∀ e2 es', (assignEach (e2 :: es') X.env).map (·.2) = assign e2 X.env :: (assignEach es' X.env).map (·.2) ∨ ¬ ∃ pre, es = pre ++ e2 :: es' := fun e2 es' => (hst e2 es').imp id fun z w => z (by
      obtain ⟨pre, q⟩ := w
      exact ⟨e :: pre, by rw [q]; rfl⟩)
    have := WGs.can es hst' n σ' H' _ vs' S' L' (Reps.mono (Le.app _ _) im _ _ rs) pins s us I rv
    exact thn this fun _ _ ⟨σ2, H2, I2, ds2, ms2, more2, L2, im2, S2, q2⟩ => ⟨σ2, H2, I2, ds2, ms2, more ++ more2, by rw [← List.append_assoc]; exact L2, im.trans im2, by rw [← List.append_assoc]; exact S2, q2⟩
/-- no starred one among them -/
def noStar : List Expr → Bool
  | [] => true
  | .Starred _ _ :: _ => false
  | _ :: es => noStar es
theorem noStar_each : ∀ (es : List Expr), noStar es = true → ∀ e es', (assignEach (e :: es') X.env).map (·.2) = assign e X.env :: (assignEach es' X.env).map (·.2) ∨ ¬ ∃ pre, es = pre ++ e :: es' := fun es hn e es' => by
  by_cases h : ∃ pre, es = pre ++ e :: es'
  · left
    obtain ⟨pre, rfl⟩ := h
    have : noStar (e :: es') = true := by
      induction pre with
      | nil => exact hn
      | cons p pre ih =>
        apply ih
        cases p <;> first | exact hn | (unfold noStar at hn; cases hn)
    cases e <;> first | rfl | (unfold noStar at this; cases this)
  · exact .inr h
/-- (a, b, ..) = a tuple -/
theorem wg_tup {es : List Expr} {k : Nat} {dl : List D} {N : List (Option D) → List Ob → Prop} (hc : X.calm = true) (hn : noStar es = true) (hl : dl.length = (assignEach es X.env).length) (h : WGs X B ds ms es dl N)
    (hst : (assignEach es X.env).findIdx? (·.1) = none := by rfl) : WG X B ds ms (.Tuple es k pos) (.tup dl) N :=
  WG.pg (pg_tup hc pgs_can rfl hst) fun σ H θ v S L r => by
    obtain ⟨a, vs, rfl, s, rs⟩ := rep_tup r
    exact ⟨a, vs, rfl, s, by rw [rs.length]; exact hl, h.can es (noStar_each es hn) σ H θ vs S L rs⟩
/-- o.f = -/
def gAttr (K : PySem.W.Frag) (to : TE) (f : Str) : TG := fun v σ H Q => to σ H fun x H1 => ∃ a C dx fs, x = .ref a ∧ H1 a = some (.ins C dx fs) ∧ Cls K C ∧ NoAttr K C f ∧ fs.length < 1000 ∧ Q σ (upd H1 a (.ins C dx (L2.putF f v fs)))
theorem pg_attr {o : Expr} {f : Str} {to : TE} (ho : PE X o to) (ha : ∀ v, assign (.Attribute o f pos) X.env v = (do
      let ov ← holding [v] (eval o X.env)
      standAt pos.atName
      holding [v, ov] (setAttr ov f v)
      release [v, ov] []) := by intro _; rfl) : PG X (.Attribute o f pos) (gAttr X.K to f) := by
  refine ⟨fun pins s σ H v u Q I r h => ?_⟩
  rw [ha]
  refine wpAny_bind (wpAny_holding (thn (ho.run pins s σ H _ I h) fun ov s1 ⟨x, H1, I1, rx, a, C, dx, fs, ex, ea, c, n, l, q⟩ => ?_))
  subst ex
  obtain rfl : ov = Value.ref a := rx
  refine wpAny_bind (wpAny_standAt (wpAny_bind (wpAny_holding ?_)))
  exact setattr_ok I1 ea c n l r fun s3 I3 => wpAny_release ⟨σ, _, I3, q⟩
theorem sat_ins {K : PySem.W.Frag} {θ : List Addr} {H : Hp} {k : Nat} {a C dx : Addr} {fs : List (Str × D)} {vs : List (Str × V)} (S : Sat K B θ ms H) (hk : θ[k]? = some a) (r : RepKV K θ H fs vs) :
    Sat K B θ (ms.set k (.ins C fs)) (upd H a (.ins C dx vs)) ∧ ImmP H (upd H a (.ins C dx vs)) := by
  obtain ⟨u, hu, hi⟩ := S.tracked (List.mem_of_getElem? hk)
  exact S.write (ob := .ins C fs) hk ⟨dx, vs, upd_same, RepKV.mono (Le.refl _) (ImmP.mut hu hi) _ _ r⟩
theorem wg_attr {o : Expr} {f : Str} {d : D} {N : List (Option D) → List Ob → Prop} (h : WE X B ds ms o fun e m => ∃ k C fs, e = .obj k ∧ m[k]? = some (.ins C fs) ∧ Cls X.K C ∧ NoAttr X.K C f ∧ fs.length < 1000 ∧ N ds (m.set k (.ins C (putFD f d fs))))
    (ha : ∀ v, assign (.Attribute o f pos) X.env v = (do
      let ov ← holding [v] (eval o X.env)
      standAt pos.atName
      holding [v, ov] (setAttr ov f v)
      release [v, ov] []) := by intro _; rfl) : WG X B ds ms (.Attribute o f pos) d N :=
  WG.pg (pg_attr pe_can ha) fun σ H θ v S L r => h.bind S L fun e m w H1 more q r1 im S1 L1 => by
    obtain ⟨k, C, fs, rfl, hk, c, n, l, q⟩ := q
    obtain ⟨a, e1, rfl⟩ := rep_obj r1
    obtain ⟨dx, vs, s, rs⟩ := S1.obs k _ a hk e1
    obtain ⟨S2, im2⟩ := sat_ins (C := C) (dx := dx) S1 e1 (rs.putF (f := f) (Rep.mono (Le.app _ _) im _ _ r))
    exact ⟨a, C, dx, vs, rfl, s, c, n, by rw [rs.length]; exact l, ds, _, more, L1.mono (Le.refl _) im2, im.trans im2, S2, q⟩
/-- xs[i] = -/
theorem wg_subL {o i : Expr} {d : D} {N : List (Option D) → List Ob → Prop} (h : WE X B ds ms o fun e m => WE X B ds m i fun f m2 => ∃ k n j xs, e = .obj k ∧ f = .int n ∧ m2[k]? = some (.lst xs) ∧ ixN xs.length n = some j ∧ N ds (m2.set k (.lst (xs.set j d))))
    (ha : ∀ v, assign (.Subscript o i pos) X.env v = (do
      let ov ← holding [v] (eval o X.env)
      let iv ← holding [v, ov] (eval i X.env)
      standAt pos
      holding [v, ov, iv] (setItem ov iv v)
      release [v, ov, iv] []) := by intro _; rfl) : WG X B ds ms (.Subscript o i pos) d N :=
  WG.pg (pg_sub pe_can pe_can set_list ha) fun σ H θ v S L r => h.bind S L fun e m w H1 more q r1 im S1 L1 => q.bind S1 L1 fun f m2 w2 H2 more2 q2 r2 im2 S2 L2 => by
    obtain ⟨k, n, j, xs, rfl, rfl, hk, hj, q2⟩ := q2
    obtain ⟨a, e1, rfl⟩ := rep_obj (Rep.mono (Le.app _ more2) im2 _ _ r1)
    obtain ⟨vs, s, rs⟩ := S2.obs k _ a hk e1
    have r' : Rep X.K (θ ++ more ++ more2) H2 d v := Rep.mono (Le.app _ _) im2 _ _ (Rep.mono (Le.app _ _) im _ _ r)
    obtain ⟨u, hu, hi⟩ := S2.tracked (List.mem_of_getElem? e1)
    have im3 : ImmP H2 (upd H2 a (.lst (vs.set j v))) := ImmP.mut hu hi
    obtain ⟨S3, _⟩ := S2.write (o := .lst (vs.set j v)) (ob := .lst (xs.set j d)) e1 ⟨vs.set j v, upd_same, Reps.mono (Le.refl _) im3 _ _ (rs.set j r')⟩
    refine ⟨a, vs, n, j, rfl, rep_int r2, s, by rw [rs.length]; exact hj, ds, _, more ++ more2, ?_, (im.trans im2).trans im3, ?_, q2⟩
    · rw [← List.append_assoc]; exact L2.mono (Le.refl _) im3
    · rw [← List.append_assoc]; exact S3
/-- target = e -/
theorem ws_asg {tg e : Expr} (h : WE X B ds ms e fun d m => WG X B ds m tg d E.nx) (hs : swapsWithSole [tg] e pos.line X.env = pure false := by rfl) (hw : swappedStores [tg] e X.env = pure none := by rfl)
    (h1 : (assignEach [tg] X.env).map (·.2) = [assign tg X.env] := by rfl) : WS X B fl ds ms (.Assign [tg] e pos) E := .mk fun σ H θ hf S L =>
  can_ps (ps_asg pe_can pg_can hs hw h1) (h.bind S L fun d m v H1 more q r im S1 L1 => q.bind S1 L1 r fun ds' ms' more2 σ' H2 n L2 im2 S2 =>
    ⟨ds', ms', θ ++ more ++ more2, L2, im.trans im2, by rw [List.append_assoc]; exact take_app hf, S2, n⟩)
/-- o.f = e -/
theorem ws_attr {o value : Expr} {f : Str} {pos' : Pos} (h : WE X B ds ms value fun d m => WE X B ds m o fun e m2 => ∃ k C fs, e = .obj k ∧ m2[k]? = some (.ins C fs) ∧ Cls X.K C ∧ NoAttr X.K C f ∧ fs.length < 1000 ∧ E.nx ds (m2.set k (.ins C (putFD f d fs))))
    (hs : swapsWith value (some (.Attribute o f pos')) pos.line X.env = pure false := by rfl) : WS X B fl ds ms (.Assign [.Attribute o f pos'] value pos) E := .mk fun σ H θ hf S L =>
  can_ps (ps_fld pe_can pe_can hs) (h.bind S L fun d m v H1 more q r im S1 L1 => q.bind S1 L1 fun e m2 w H2 more2 q2 r2 im2 S2 L2 => by
    obtain ⟨k, C, fs, rfl, hk, c, n, l, q2⟩ := q2
    obtain ⟨a, e1, rfl⟩ := rep_obj r2
    obtain ⟨dx, vs, s, rs⟩ := S2.obs k _ a hk e1
    obtain ⟨S3, im3⟩ := sat_ins (C := C) (dx := dx) S2 e1 (rs.putF (f := f) (Rep.mono (Le.app _ _) im2 _ _ r))
    exact ⟨a, C, dx, vs, rfl, s, c, n, by rw [rs.length]; exact l, ds, _, θ ++ more ++ more2, L2.mono (Le.refl _) im3, (im.trans im2).trans im3, by rw [List.append_assoc]; exact take_app hf, S3, q2⟩)
/-- a, b = x, y: plain local names -/
theorem ws_par (i j : Nat) {x y : Str} {a b : Expr} {px py pt : Pos} {kt k2 pt2} (hc : X.calm = true) (hN : X.N.Nodup) (hi : X.N[i]? = some x) (hj : X.N[j]? = some y) (hij : i ≠ j)
    (hx : X.env.scope.names.lookup x = some .local) (hy : X.env.scope.names.lookup y = some .local)
    (h : WE X B ds ms a fun d m => WE X B ds m b fun e m2 => E.nx ((ds.set i (some d)).set j (some e)) m2)
    (hw : swappedStores [.Tuple [.Name x px, .Name y py] kt pt] (.Tuple [a, b] k2 pt2) X.env = pure (some [x, y]) := by rfl)
    (hsa : starEach [a, b] X.env = (false, eval a X.env) :: starEach [b] X.env := by rfl) (hsb : starEach [b] X.env = (false, eval b X.env) :: starEach [] X.env := by rfl)
    (hs : swapsWithSole [.Tuple [.Name x px, .Name y py] kt pt] (.Tuple [a, b] k2 pt2) pos.line X.env = pure false := by rfl) :
    WS X B fl ds ms (.Assign [.Tuple [.Name x px, .Name y py] kt pt] (.Tuple [a, b] k2 pt2) pos) E := .mk fun σ H θ hf S L =>
  can_ps (ps_par hc hN hi hj hij hx hy (pa_cons pe_can (pa_cons pe_can pa_nil hsb) hsa) hw hs) (h.bind S L fun d m v H1 more q r im S1 L1 => q.bind S1 L1 fun e m2 w H2 more2 q2 r2 im2 S2 L2 =>
    ⟨v, w, rfl, _, m2, θ ++ more ++ more2, (L2.set (Rep.mono (Le.app _ _) im2 _ _ r) i).set r2 j, im.trans im2, by rw [List.append_assoc]; exact take_app hf, S2, q2⟩)
/-- name op= e -/
theorem ws_aug (i : Nat) {x : Str} {e : Expr} {op : Operator} {pos' : Pos} {d0 : D} (hN : X.N.Nodup) (hi : X.N[i]? = some x) (hx : Loc X.env.scope x) (hf' : X.fn x = true ∨ X.env.scope.names.lookup x = some .local) (hd : ds[i]? = some (some d0))
    (h : WE X B ds ms e fun d m => WO X B m (inplaceOp op) d0 d fun r m2 => E.nx (ds.set i (some r)) m2) : WS X B fl ds ms (.AugAssign (.Name x pos') op e pos) E := .mk fun σ H θ hf S L => by
  obtain ⟨v0, e0, r0⟩ := L.at_ i d0 hd
  refine can_ps (ps_aug (ti := roCan X (inplaceOp op)) hN hi hx pe_can (fun pins s σ H x y v u Q I rx ry h => h pins s σ v u I rx ry) hf') ⟨v0, e0, ?_⟩
  exact h.bind S L fun d m v H1 more q r im S1 L1 => (q H1 _ v0 v S1 (Rep.mono (Le.app _ _) im _ _ r0) r).mono fun z H2 ⟨d2, m2, more2, r2, im2, S2, q2⟩ =>
    ⟨ds.set i (some d2), m2, θ ++ more ++ more2, (L1.mono (Le.app _ _) im2).set r2 i, im.trans im2, by rw [List.append_assoc]; exact take_app hf, S2, q2⟩

/-! ## forgetting -/
mutual
def D.cl (n : Nat) : D → Bool
  | .tup ds => clAll n ds
  | .rol ds => clAll n ds
  | .rod _ ds => clAll n ds
  | .obj k => decide (k < n)
  | _ => true
def clAll (n : Nat) : List D → Bool
  | [] => true
  | d :: ds => D.cl n d && clAll n ds
end
def clKV {κ : Type} (n : Nat) : List (κ × D) → Bool
  | [] => true
  | (_, d) :: r => D.cl n d && clKV n r
def Ob.cl (n : Nat) : Ob → Bool
  | .lst ds => clAll n ds
  | .dK kvs => clKV n kvs
  | .dT kvs => clKV n kvs
  | .ins _ fs => clKV n fs
section
variable {K : PySem.W.Frag} {θ : List Addr} {H : Hp} {n : Nat}
mutual
theorem Rep.cut : ∀ (d : D) (v : V), d.cl n = true → Rep K θ H d v → Rep K (θ.take n) H d v
  | .non, _, _, h => by unfold Rep at *; exact h
  | .bl _, _, _, h => by unfold Rep at *; exact h
  | .int _, _, _, h => by unfold Rep at *; exact h
  | .str _, _, _, h => by unfold Rep at *; exact h
  | .ref _, _, _, h => by unfold Rep at *; exact h
  | .ty _, _, _, h => by unfold Rep at *; exact h
  | .obj k, _, c, h => by
    unfold Rep at *
    obtain ⟨a, e, r⟩ := h
    exact ⟨a, by rw [List.getElem?_take_of_lt (by simpa [D.cl] using c)]; exact e, r⟩
  | .tup ds, _, c, h => by
    unfold Rep at *
    obtain ⟨a, vs, e, s, r⟩ := h
    exact ⟨a, vs, e, s, Reps.cutA ds vs (by simpa [D.cl] using c) r⟩
  | .rol ds, _, c, h => by
    unfold Rep at *
    obtain ⟨a, vs, e, s, r⟩ := h
    exact ⟨a, vs, e, s, Reps.cutA ds vs (by simpa [D.cl] using c) r⟩
  | .rod ks ds, _, c, h => by
    unfold Rep at *
    obtain ⟨a, vs, e, s, l, r⟩ := h
    exact ⟨a, vs, e, s, l, Reps.cutA ds vs (by simpa [D.cl] using c) r⟩
theorem Reps.cutA : ∀ (ds : List D) (vs : List V), clAll n ds = true → Reps K θ H ds vs → Reps K (θ.take n) H ds vs
  | [], _, _, h => by unfold Reps at *; exact h
  | d :: ds, _, c, h => by
    unfold Reps at *
    obtain ⟨v, vs', e, r, rs⟩ := h
    have c' : d.cl n = true ∧ clAll n ds = true := by simpa [clAll] using c
    exact ⟨v, vs', e, Rep.cut d v c'.1 r, Reps.cutA ds vs' c'.2 rs⟩
end
theorem RepKV.cut {κ : Type} : ∀ (ds : List (κ × D)) (vs : List (κ × V)), clKV n ds = true → RepKV K θ H ds vs → RepKV K (θ.take n) H ds vs
  | [], _, _, h => h
  | (k, d) :: ds, _, c, h => by
    obtain ⟨v, vs', e, r, rs⟩ := h
    have c' : d.cl n = true ∧ clKV n ds = true := by simpa [clKV] using c
    exact ⟨v, vs', e, Rep.cut d v c'.1 r, RepKV.cut ds vs' c'.2 rs⟩
theorem ObR.cut {a : Addr} : ∀ {ob : Ob}, ob.cl n = true → ObR K θ H a ob → ObR K (θ.take n) H a ob
  | .lst _, c, ⟨vs, h, r⟩ => ⟨vs, h, Reps.cutA _ _ c r⟩
  | .dK _, c, ⟨vs, h, r⟩ => ⟨vs, h, RepKV.cut _ _ c r⟩
  | .dT _, c, ⟨vs, h, r⟩ => ⟨vs, h, RepKV.cut _ _ c r⟩
  | .ins _ _, c, ⟨dx, vs, h, r⟩ => ⟨dx, vs, h, RepKV.cut _ _ c r⟩
theorem Sat.cut {B : Bs} {ms : List Ob} (S : Sat K B θ ms H) (hn : n ≤ ms.length) (c : (ms.take n).all (Ob.cl n) = true) : Sat K B (θ.take n) (ms.take n) H where
  len := by simp [S.len]
  nd := S.nd.sublist (List.take_sublist _ _)
  obs := fun k ob a h1 h2 => by
    have hk : k < n := by
      have := (List.getElem?_eq_some_iff.mp h1).1
      rw [List.length_take] at this; omega
    have c1 : ob.cl n = true := List.all_eq_true.mp c ob (List.mem_of_getElem? h1)
    rw [List.getElem?_take_of_lt hk] at h1 h2
    exact (S.obs k ob a h1 h2).cut c1
  keep := S.keep
  new := fun a ha => S.new a (List.mem_of_mem_take ha)
end
/-- the slots that may be kept -/
def keepD (n : Nat) (ds : List (Option D)) : List (Option D) := ds.map fun o => match o with
  | some d => if d.cl n then some d else none
  | none => none
/-- the new objects from n on are forgotten -/
theorem wss_drop (n : Nat) {st : List Stmt} (hn : n ≤ ms.length) (hf : fl ≤ n) (c : (ms.take n).all (Ob.cl n) = true) (ds' : List (Option D)) (hd : ds'.length = ds.length) (hs : ∀ (i : Nat) (d : D), ds'[i]? = some (some d) → ds[i]? = some (some d) ∧ D.cl n d = true)
    (h : WSs X B fl ds' (ms.take n) st E) : WSs X B fl ds ms st E := .mk fun σ H θ hfl S L => by
  have hl : n ≤ θ.length := by rw [S.len]; exact hn
  refine h.moved (θ' := θ.take n) (by rw [List.length_take]; omega) (S.cut hn c) ⟨hd.trans L.len, fun i d e => ?_⟩ (ImmP.refl _) (by rw [List.take_take]; congr 1; omega)
  obtain ⟨e1, c1⟩ := hs i d e
  obtain ⟨v, e2, r⟩ := L.at_ i d e1
  exact ⟨v, e2, Rep.cut d v c1 r⟩
end
end VL

namespace VL
open PySem PySem.Spec PyProof.Rows L2

/-! ## what is walked -/
def WalkD (K : PySem.W.Frag) (B : Bs) (θ : List Addr) (H : Hp) (J : It) (items : List D) (G : List Ob → Prop) : Prop :=
  ∃ Gh Y, Walk J items.length Gh Y ∧
    (∀ θ' ms' H', ImmP H H' → θ'.take θ.length = θ → Sat K B θ' ms' H' → G ms' → Gh H') ∧
    (∀ i x H' H2 θ' ms', i < items.length → ImmP H H' → θ'.take θ.length = θ → Sat K B θ' ms' H' → G ms' → Y i H' x H2 → ∃ d, items[i]? = some d ∧ Same H' H2 ∧ Sat K B θ' ms' H2 ∧ Rep K θ' H2 d x)
structure WI (X : Cx) (B : Bs) (ds : List (Option D)) (ms : List Ob) (tg e : Expr) (R : List D → (List Ob → Prop) → List Ob → Prop) : Prop where
  run : ∀ σ H θ, Sat X.K B θ ms H → Slr X.K θ H ds σ → tiCan X tg e σ H fun J H1 => ∃ items G m1 more, ImmP H H1 ∧ Sat X.K B (θ ++ more) m1 H1 ∧ R items G m1 ∧ WalkD X.K B (θ ++ more) H1 J items G
instance {X : Cx} {B : Bs} {ds : List (Option D)} {ms : List Ob} {tg e : Expr} {R : List D → (List Ob → Prop) → List Ob → Prop} : CoeFun (WI X B ds ms tg e R) (fun _ => ∀ σ H θ, Sat X.K B θ ms H → Slr X.K θ H ds σ → tiCan X tg e σ H fun J H1 => ∃ items G m1 more, ImmP H H1 ∧ Sat X.K B (θ ++ more) m1 H1 ∧ R items G m1 ∧ WalkD X.K B (θ ++ more) H1 J items G) := ⟨fun h => h.run⟩
section
variable {K : PySem.W.Frag} {B : Bs} {θ : List Addr} {ms : List Ob} {H : Hp}
theorem le_of_take {θ' : List Addr} (t : θ'.take θ.length = θ) : Le θ θ' := fun k a h => by
  have hk : k < θ.length := (List.getElem?_eq_some_iff.mp h).1
  rw [← List.getElem?_take_of_lt hk, t]; exact h
theorem le_len {θ' : List Addr} (t : θ'.take θ.length = θ) : θ.length ≤ θ'.length := by
  have := congrArg List.length t
  rw [List.length_take] at this
  omega
theorem walkD_tup {a : Addr} {vs : List V} {xs : List D} (s : SqT K H a vs) (rs : Reps K θ H xs vs) : WalkD K B θ H (Itt K a) xs fun _ => True := by
  refine ⟨fun H => SqT K H a vs, YAt vs, by rw [← rs.length]; exact walk_tup, fun θ' ms' H' im _ _ _ => im.sqt s, fun i x H' H2 θ' ms' hi im t S _ y => ?_⟩
  obtain ⟨rfl, hx⟩ := y
  obtain ⟨d, e, r⟩ := rs.getV hx
  exact ⟨d, e, Same.refl _, S, Rep.mono (le_of_take t) im _ _ r⟩
theorem walkD_list {k : Nat} {a : Addr} {vs : List V} {xs : List D} (hk : θ[k]? = some a) (s : H a = some (.lst vs)) (rs : Reps K θ H xs vs) : WalkD K B θ H (Itl K a) xs fun m => m[k]? = some (.lst xs) := by
  have key : ∀ {θ' : List Addr} {ms' : List Ob} {H' : Hp}, θ'.take θ.length = θ → Sat K B θ' ms' H' → ms'[k]? = some (.lst xs) → ∃ ws, H' a = some (.lst ws) ∧ Reps K θ' H' xs ws := fun {θ' ms' H'} t S hm => S.obs k _ a hm (le_of_take t k a hk)
  refine ⟨fun H' => ∃ ws θ', H' a = some (.lst ws) ∧ Reps K θ' H' xs ws, fun i H' x H2 => H2 = H' ∧ ∀ ws, H' a = some (.lst ws) → ws.length = xs.length → ws[i]? = some x, ⟨fun i H' hi q => ?_, fun H' q => ?_, fun i H' x H2 hi q y => ⟨y.1, fun ws h hl => y.2 ws (SqL.of h)⟩⟩, fun θ' ms' H' im t S hm => ?_, fun i x H' H2 θ' ms' hi im t S hm y => ?_⟩
  · obtain ⟨ws, θ', h, r⟩ := q
    have : i < ws.length := by rw [r.length]; exact hi
    exact ⟨ws, ws[i], SqL.of h, List.getElem?_eq_getElem this⟩
  · obtain ⟨ws, θ', h, r⟩ := q
    exact ⟨ws, SqL.of h, Nat.le_of_eq r.length⟩
  · obtain ⟨ws, h, r⟩ := key t S hm
    exact ⟨ws, θ', h, r⟩
  · obtain ⟨rfl, hx⟩ := y
    obtain ⟨ws, h, r⟩ := key t S hm
    obtain ⟨d, e, rd⟩ := r.getV (hx ws h r.length)
    exact ⟨d, e, Same.refl _, S, rd⟩
theorem walkD_rol {a : Addr} {vs : List V} {xs : List D} (s : SqLi K H a vs) (rs : Reps K θ H xs vs) : WalkD K B θ H (Itl K a) xs fun _ => True := by
  refine ⟨fun H => SqLi K H a vs, YAt vs, by rw [← rs.length]; exact walk_list.mono (fun H h => h.sq) fun _ _ _ _ _ _ y => y, fun θ' ms' H' im _ _ _ => im.sqli s, fun i x H' H2 θ' ms' hi im t S _ y => ?_⟩
  obtain ⟨rfl, hx⟩ := y
  obtain ⟨d, e, r⟩ := rs.getV hx
  exact ⟨d, e, Same.refl _, S, Rep.mono (le_of_take t) im _ _ r⟩
theorem walkD_range {lo : Int} {n : Nat} : WalkD K B θ H (Itr lo n) ((List.range n).map fun i => .int (lo + (i : Nat))) fun _ => True := by
  refine ⟨fun _ => True, YFn fun i => .int (lo + i), by rw [List.length_map, List.length_range]; exact walk_range, fun _ _ _ _ _ _ _ => trivial, fun i x H' H2 θ' ms' hi im t S _ y => ?_⟩
  obtain ⟨rfl, rfl⟩ := y
  rw [List.length_map, List.length_range] at hi
  exact ⟨.int (lo + (i : Nat)), by rw [List.getElem?_map, List.getElem?_range hi]; rfl, Same.refl _, S, mk_int⟩
theorem walkD_str {z : Str} : WalkD K B θ H (Its z) (z.cps.toList.map fun c => .str ⟨#[c]⟩) fun _ => True := by
  refine ⟨fun _ => True, _, by rw [List.length_map, Array.length_toList]; exact walk_str, fun _ _ _ _ _ _ _ => trivial, fun i x H' H2 θ' ms' hi im t S _ y => ?_⟩
  obtain ⟨rfl, c, hc, rfl⟩ := y
  exact ⟨.str ⟨#[c]⟩, by rw [List.getElem?_map, Array.getElem?_toList, hc]; rfl, Same.refl _, S, mk_str⟩
end
section
variable {X : Cx} {B : Bs} {ds : List (Option D)} {ms : List Ob} {tg e : Expr} {pos : Pos} {R : List D → (List Ob → Prop) → List Ob → Prop}
theorem wi_tup (h : WE X B ds ms e fun d m => ∃ xs, d = .tup xs ∧ R xs (fun _ => True) m) : WI X B ds ms tg e R := .mk fun σ H θ S L => can_pi (pi_tup pe_can) (h.bind S L fun d m v H1 more q r im S1 L1 => by
  obtain ⟨xs, rfl, q⟩ := q
  obtain ⟨a, vs, rfl, s, rs⟩ := rep_tup r
  exact ⟨a, rfl, ⟨vs, s⟩, xs, _, m, more, im, S1, q, walkD_tup s rs⟩)
theorem wi_list (h : WE X B ds ms e fun d m => ∃ k xs, d = .obj k ∧ m[k]? = some (.lst xs) ∧ R xs (fun m' => m'[k]? = some (.lst xs)) m) : WI X B ds ms tg e R := .mk fun σ H θ S L => can_pi (pi_list pe_can) (h.bind S L fun d m v H1 more q r im S1 L1 => by
  obtain ⟨k, xs, rfl, hk, q⟩ := q
  obtain ⟨a, e1, rfl⟩ := rep_obj r
  obtain ⟨vs, s, rs⟩ := S1.obs k _ a hk e1
  exact ⟨a, rfl, ⟨vs, SqL.of s⟩, xs, _, m, more, im, S1, q, walkD_list e1 s rs⟩)
theorem wi_rol (h : WE X B ds ms e fun d m => ∃ xs, d = .rol xs ∧ R xs (fun _ => True) m) : WI X B ds ms tg e R := .mk fun σ H θ S L => can_pi (pi_list pe_can) (h.bind S L fun d m v H1 more q r im S1 L1 => by
  obtain ⟨xs, rfl, q⟩ := q
  obtain ⟨a, vs, rfl, s, rs⟩ := rep_rol r
  exact ⟨a, rfl, ⟨vs, s.sq⟩, xs, _, m, more, im, S1, q, walkD_rol s rs⟩)
theorem wi_str (h : WE X B ds ms e fun d m => ∃ z, d = .str z ∧ R (z.cps.toList.map fun c => .str ⟨#[c]⟩) (fun _ => True) m) : WI X B ds ms tg e R := .mk fun σ H θ S L => can_pi (pi_str pe_can) (h.bind S L fun d m v H1 more q r im S1 L1 => by
  obtain ⟨z, rfl, q⟩ := q
  exact ⟨z, rep_str r, _, _, m, more, im, S1, q, walkD_str⟩)
theorem wi_range1 {a : Expr} {p : Pos} (hm : X.mg "range" = none) (hg : Gl X "range") (h : WE X B ds ms a fun d m => ∃ n : Int, d = .int n ∧ -(2 ^ 62) ≤ n ∧ n < 2 ^ 62 ∧ R ((List.range n.toNat).map fun i => .int (i : Nat)) (fun _ => True) m)
    (hs : starEach [a] X.env = (false, eval a X.env) :: starEach [] X.env := by rfl) : WI X B ds ms tg (.Call (.Name "range" p) [a] [] pos) R := .mk fun σ H θ S L => can_pi (pi_range1 hg hm (pa_cons pe_can pa_nil hs) hs) (h.bind S L fun d m v H1 more q r im S1 L1 => by
  obtain ⟨n, rfl, h1, h2, q⟩ := q
  refine ⟨n, by rw [rep_int r], h1, h2, _, _, m, more, im, S1, q, ?_⟩
  have := walkD_range (K := X.K) (B := B) (θ := θ ++ more) (H := H1) (lo := 0) (n := n.toNat)
  simpa using this)
theorem wi_range2 {a b : Expr} {p : Pos} (hm : X.mg "range" = none) (hg : Gl X "range") (h : WE X B ds ms a fun d m => WE X B ds m b fun e m2 => ∃ lo hi : Int, d = .int lo ∧ e = .int hi ∧ (-(2 ^ 62) ≤ lo ∧ lo < 2 ^ 62 ∧ -(2 ^ 62) ≤ hi ∧ hi < 2 ^ 62) ∧ R ((List.range (hi - lo).toNat).map fun i => .int (lo + (i : Nat))) (fun _ => True) m2)
    (hs : starEach [a, b] X.env = (false, eval a X.env) :: starEach [b] X.env := by rfl) (hs2 : starEach [b] X.env = (false, eval b X.env) :: starEach [] X.env := by rfl) : WI X B ds ms tg (.Call (.Name "range" p) [a, b] [] pos) R := .mk fun σ H θ S L => can_pi (pi_range2 hg hm (pa_cons pe_can (pa_cons pe_can pa_nil hs2) hs) (hs.trans (by rw [hs2]; rfl)) hs2) (h.bind S L fun d m v H1 more q r im S1 L1 => q.bind S1 L1 fun e m2 w H2 more2 q2 r2 im2 S2 L2 => by
  obtain ⟨lo, hi, rfl, rfl, hb, q⟩ := q2
  exact ⟨lo, hi, by rw [rep_int r, rep_int r2], hb, _, _, m2, more ++ more2, im.trans im2, by rw [← List.append_assoc]; exact S2, q, walkD_range⟩)

/-! ## for, while -/
theorem ws_for {fl : Nat} {body : List Stmt} {E : En} (hc : X.calm = true) (hp : PassesOwn (model X.prog X.w) X.A X.env X.xe)
    (h : WI X B ds ms tg e fun items G m => ∃ Iv : Nat → List (Option D) → List Ob → Prop, Iv 0 ds m ∧ (∀ i ds' m', Iv i ds' m' → G m') ∧
      (∀ i d ds' m', items[i]? = some d → Iv i ds' m' → WG X B ds' m' tg d fun ds2 m2 => WSs X B m.length ds2 m2 body ⟨Iv (i + 1), E.rt, E.nx, Iv (i + 1)⟩) ∧ (∀ ds' m', Iv items.length ds' m' → E.nx ds' m'))
    (hs : ∀ x, foldedSetIterable e X.env x = pure x := by intro _; rfl) : WS X B fl ds ms (.For tg e body [] pos) E := .mk fun σ H θ hf S L => by
  refine can_ps (ps_for hp hc pi_can pg_can pss_can hs) ?_
  intro pins s I
  refine thn (h σ H θ S L pins s I) fun v s1 h1 => thn h1 fun itv s2 h2 => ?_
  obtain ⟨it, fp, tn, J, H1, e1, I1, T, t0, hfp, items, G, m, more, im, S1, ⟨Iv, i0, iG, step, done⟩, Gh, Y, W, wg, wy⟩ := h2
  refine ⟨it, fp, tn, J, H1, e1, I1, T, t0, hfp, ?_⟩
  have hlen : (θ ++ more).length = m.length := S1.len
  have L1 := L.mono (Le.app θ more) im
  have tk : ∀ {θ' : List Addr}, θ'.take (θ ++ more).length = θ ++ more → θ'.take fl = θ.take fl := fun {θ'} t => by
    have hfl : fl ≤ (θ ++ more).length := by rw [List.length_append]; omega
    rw [← take_app (more := more) hf, ← t, List.take_take]
    congr 1
    omega
  refine for_it W (fun i σ' H' => ∃ ds' ms' θ', Slr X.K θ' H' ds' σ' ∧ ImmP H1 H' ∧ θ'.take (θ ++ more).length = θ ++ more ∧ Sat X.K B θ' ms' H' ∧ Iv i ds' ms')
    ⟨ds, m, θ ++ more, L1, ImmP.refl _, List.take_length, S1, i0⟩ (fun i σ' H' _ ⟨ds', ms', θ', L', im', t', S', q⟩ => wg θ' ms' H' im' t' S' (iG i ds' ms' q)) (fun i x σ' H' H2 hi p y => ?_) (fun σ' H' p => ?_)
  · obtain ⟨ds', ms', θ', L', im', t', S', q⟩ := p
    obtain ⟨d, hd, sm2, S2, r2⟩ := wy i x H' H2 θ' ms' hi im' t' S' (iG i ds' ms' q) y
    have im2 : ImmP H' H2 := fun a o h _ => sm2 a o h
    refine WG.bind (step i d ds' ms' hd q) S2 (L'.mono (Le.refl _) im2) r2 fun ds3 ms3 more3 σ3 H3 n3 L3 im3 S3 => ?_
    have hl3 : m.length ≤ (θ' ++ more3).length := by
      have := le_len t'
      rw [List.length_append]; omega
    have t3 : (θ' ++ more3).take (θ ++ more).length = θ ++ more := by rw [take_app (le_len t')]; exact t'
    have imA : ImmP H1 H3 := (im'.trans im2).trans im3
    refine (n3 σ3 H3 _ hl3 S3 L3).imp (fun σ4 H4 z => ?_) (fun v4 H4 z => ?_) (fun σ4 H4 z => ?_) (fun σ4 H4 z => ?_)
    · obtain ⟨ds4, ms4, θ4, L4, im4, t4, S4, q4⟩ := z
      exact ⟨ds4, ms4, θ4, L4, imA.trans im4, by rw [hlen]; rw [t4, ← hlen]; exact t3, S4, q4⟩
    · obtain ⟨d4, ms4, θ4, r4, im4, t4, S4, q4⟩ := z
      exact ⟨d4, ms4, θ4, r4, im.trans (imA.trans im4), tk (by rw [hlen]; rw [t4, ← hlen]; exact t3), S4, q4⟩
    · obtain ⟨ds4, ms4, θ4, L4, im4, t4, S4, q4⟩ := z
      exact ⟨ds4, ms4, θ4, L4, im.trans (imA.trans im4), tk (by rw [hlen]; rw [t4, ← hlen]; exact t3), S4, q4⟩
    · obtain ⟨ds4, ms4, θ4, L4, im4, t4, S4, q4⟩ := z
      exact ⟨ds4, ms4, θ4, L4, imA.trans im4, by rw [hlen]; rw [t4, ← hlen]; exact t3, S4, q4⟩
  · obtain ⟨ds', ms', θ', L', im', t', S', q⟩ := p
    exact ⟨ds', ms', θ', L', im.trans im', tk t', S', done ds' ms' q⟩
theorem ws_while {fl : Nat} {c : Expr} {body : List Stmt} {E : En} (hp : PassesOwn (model X.prog X.w) X.A X.env X.xe) (Iv : Nat → List (Option D) → List Ob → Prop) (m0 : Nat) (h0 : Iv m0 ds ms)
    (hs : ∀ n ds' m', Iv n ds' m' → WT X B ds' m' c fun k m2 => (k = true → WSs X B fl ds' m2 body ⟨fun ds3 m3 => ∃ n', n' < n ∧ Iv n' ds3 m3, E.rt, E.nx, fun ds3 m3 => ∃ n', n' < n ∧ Iv n' ds3 m3⟩) ∧ (k = false → E.nx ds' m2)) : WS X B fl ds ms (.While c body [] pos) E := .mk fun σ H θ hf S L => by
  refine can_ps (ps_while hp pt_can pss_can) ⟨fun n σ' H' => nxOf X.K B fl θ H (Iv n) σ' H', ⟨m0, ds, ms, θ, L, ImmP.refl _, rfl, S, h0⟩, ?_⟩
  rintro n σ' H' ⟨ds', ms', θ', L', im', t', S', q⟩
  refine (hs n ds' ms' q).bind S' L' fun k m2 H2 more q2 im2 S2 L2 => ?_
  have hf2 : fl ≤ (θ' ++ more).length := by
    have := len_of t' hf
    rw [List.length_append]; omega
  have t2 : (θ' ++ more).take fl = θ.take fl := (take_app (len_of t' hf)).trans t'
  cases k with
  | true =>
    refine ⟨fun σ3 H3 => nxOf X.K B fl θ H (fun ds3 m3 => ∃ n', n' < n ∧ Iv n' ds3 m3) σ3 H3, fun σ3 H3 z => ?_, ?_⟩
    · obtain ⟨ds3, ms3, θ3, L3, im3, t3, S3, n', hn', q3⟩ := z
      exact ⟨n', hn', ds3, ms3, θ3, L3, im3, t3, S3, q3⟩
    · exact WSs.moved (q2.1 rfl) hf2 S2 L2 (im'.trans im2) t2
  | false => exact ⟨ds', m2, θ' ++ more, L2, im'.trans im2, t2, S2, q2.2 rfl⟩
end
end VL

namespace VL
open PySem PySem.Spec PyProof.Rows L2

/-! ## another base -/
section
variable {K : PySem.W.Frag} {B : Bs} {θ θ' : List Addr} {ms ms' : List Ob} {H H' : Hp}
theorem Sat.here (S : Sat K B θ ms H) : Sat K ⟨H, θ⟩ θ ms H := ⟨S.len, S.nd, S.obs, fun _ _ h _ => h, fun a h => .inl h⟩
theorem Sat.rebase (S : Sat K B θ ms H) (S' : Sat K ⟨H, θ⟩ θ' ms' H') : Sat K B θ' ms' H' where
  len := S'.len
  nd := S'.nd
  obs := S'.obs
  keep := fun b o e n => S'.keep b o (S.keep b o e n) fun z => by
    rcases S.new b z with q | q
    · exact n q
    · rw [e] at q; cases q
  new := fun a ha => by
    rcases S'.new a ha with z | z
    · exact S.new a z
    · by_cases hT : a ∈ B.T0
      · exact .inl hT
      · right
        cases q : B.H0 a with
        | none => rfl
        | some o => have := S.keep a o q hT; rw [show H a = none from z] at this; cases this
theorem Sat.other (S : Sat K B θ ms H) {a : Addr} {o u : HO} (h : a ∉ θ) (hb : a ∈ B.T0 ∨ B.H0 a = none) (hu : H a = some u) (hi : imm u = false) : Sat K B θ ms (upd H a o) ∧ ImmP H (upd H a o) := by
  have im : ImmP H (upd H a o) := ImmP.mut hu hi
  refine ⟨⟨S.len, S.nd, fun k ob b h1 h2 => (S.obs k ob b h1 h2).keep (Le.refl _) im ?_, fun b w e n => ?_, S.new⟩, im⟩
  · rw [upd_ne]
    rintro rfl
    exact h (List.mem_of_getElem? h2)
  · rw [upd_ne]
    · exact S.keep b w e n
    · rintro rfl
      rcases hb with z | z
      · exact n z
      · rw [e] at z; cases z
theorem Sat.adopt (S : Sat K B θ ms H) {a : Addr} {ob : Ob} (h : a ∉ θ) (hb : a ∈ B.T0 ∨ B.H0 a = none) (hob : ObR K (θ ++ [a]) H a ob) : Sat K B (θ ++ [a]) (ms ++ [ob]) H where
  len := by simp [S.len]
  nd := by
    refine List.nodup_append.mpr ⟨S.nd, by simp, fun b hb' c hc e => ?_⟩
    have : c = a := by simpa using hc
    subst this; subst e
    exact h hb'
  obs := fun k ob' b h1 h2 => by
    by_cases hk : k < ms.length
    · rw [List.getElem?_append_left hk] at h1
      rw [List.getElem?_append_left (by rw [S.len]; exact hk)] at h2
      exact (S.obs k ob' b h1 h2).keep (Le.app _ _) (ImmP.refl _) rfl
    · have hk' : k = ms.length := by
        have := (List.getElem?_eq_some_iff.mp h1).1
        simp at this; omega
      subst hk'
      rw [← S.len] at h2
      simp at h1 h2
      subst h1; subst h2
      exact hob
  keep := S.keep
  new := fun b hb' => by
    rcases List.mem_append.mp hb' with z | z
    · exact S.new b z
    · have : b = a := by simpa using z
      subst this
      exact hb
end

/-! ## comprehensions -/
def wipeD (ds : List (Option D)) : List Nat → List (Option D)
  | [] => ds
  | v :: vs => (wipeD ds vs).set v none
theorem Slr.wipe {K : PySem.W.Frag} {θ : List Addr} {H : Hp} {ds : List (Option D)} {σ : St} (L : Slr K θ H ds σ) : ∀ vs : List Nat, Slr K θ H (wipeD ds vs) (L2.wipe σ vs)
  | [] => L
  | v :: vs => by
    have ih := Slr.wipe L vs
    unfold wipeD L2.wipe
    refine ⟨by simp [ih.len], fun j e h => ?_⟩
    by_cases hj : j = v
    · subst hj
      have hl : j < (wipeD ds vs).length := by have := (List.getElem?_eq_some_iff.mp h).1; simpa using this
      rw [List.getElem?_set_self hl] at h
      cases h
    · rw [List.getElem?_set_ne (Ne.symm hj)] at h
      obtain ⟨w, e1, r1⟩ := ih.at_ j e h
      exact ⟨w, by rw [List.getElem?_set_ne (Ne.symm hj)]; exact e1, r1⟩
theorem wipe_set {σ : St} {j : Nat} {x : Option V} : ∀ {vs : List Nat}, j ∈ vs → wipe (σ.set j x) vs = wipe σ vs
  | [], h => by cases h
  | v :: vs, h => by
    unfold wipe
    by_cases e : j = v
    · subst e
      apply List.ext_getElem?
      intro i
      by_cases hi : i = j
      · subst hi
        by_cases hl : i < σ.length
        · rw [List.getElem?_set_self (by rw [wipe_length, List.length_set]; exact hl), List.getElem?_set_self (by rw [wipe_length]; exact hl)]
        · rw [List.getElem?_eq_none (by rw [List.length_set, wipe_length, List.length_set]; omega), List.getElem?_eq_none (by rw [List.length_set, wipe_length]; omega)]
      · rw [List.getElem?_set_ne (Ne.symm hi), List.getElem?_set_ne (Ne.symm hi)]
        have key : ∀ ws : List Nat, (wipe (σ.set j x) ws)[i]? = (wipe σ ws)[i]? := by
          intro ws
          induction ws with
          | nil => exact List.getElem?_set_ne (Ne.symm hi)
          | cons w ws ih =>
            unfold wipe
            by_cases hw : i = w
            · subst hw
              by_cases hl : i < σ.length
              · rw [List.getElem?_set_self (by rw [wipe_length, List.length_set]; exact hl), List.getElem?_set_self (by rw [wipe_length]; exact hl)]
              · rw [List.getElem?_eq_none (by rw [List.length_set, wipe_length, List.length_set]; omega), List.getElem?_eq_none (by rw [List.length_set, wipe_length]; omega)]
            · rw [List.getElem?_set_ne (Ne.symm hw), List.getElem?_set_ne (Ne.symm hw)]
              exact ih
        exact key vs
    · rw [wipe_set (vs := vs) ((List.mem_cons.mp h).resolve_left e)]
theorem wipe_wipe {σ : St} : ∀ {vs ws : List Nat}, (∀ v ∈ vs, v ∈ ws) → wipe (wipe σ vs) ws = wipe σ ws
  | [], _, _ => rfl
  | v :: vs, ws, h => by
    show wipe ((wipe σ vs).set v none) ws = wipe σ ws
    rw [wipe_set (h v List.mem_cons_self)]
    exact wipe_wipe fun w hw => h w (List.mem_cons_of_mem _ hw)

/-- a target within a comprehension: what it does to the slots -/
structure TgLc (X : Cx) (scope : Scope) (vs : List Nat) (tg : Expr) (g : TG) (app : D → List (Option D) → Option (List (Option D))) : Prop where
  pg : ∀ (s : Shared) (H : Hp) (C : Addr) (cl : List (Str × Addr)) (fp : List Addr), PG (X.blk s H scope (compEnvC scope cl C X.env) fp) tg g
  go : ∀ σ H θ v d ds ds', app d ds = some ds' → Rep X.K θ H d v → Slr X.K θ H ds (wipe σ vs) → ∃ σ2, (∀ Q : St → Hp → Prop, Q σ2 H → g v (wipe σ vs) H Q) ∧ Slr X.K θ H ds' σ2 ∧ wipe σ2 vs = wipe σ vs
section
variable {X : Cx} {scope : Scope} {vs : List Nat}
theorem tg_name (j : Nat) {x : Str} {p : Pos} (hN : X.N.Nodup) (hj : X.N[j]? = some x) (hx : scope.names.lookup x = some .local) (hv : j ∈ vs) : TgLc X scope vs (.Name x p) (gName j) fun d ds => some (ds.set j (some d)) where
  pg := fun s H C cl fp => pg_name hN hj (.inl (lookup_relabel_local hx)) (.inr (lookup_relabel_local hx))
  go := fun σ H θ v d ds ds' e r L => by
    cases e
    exact ⟨_, fun Q q => q, L.set r j, by rw [wipe_set hv]; exact wipe_wipe fun _ h => h⟩
/-- a, b -/
def app2 (i j : Nat) : D → List (Option D) → Option (List (Option D))
  | .tup [d, e], ds => some ((ds.set i (some d)).set j (some e))
  | _, _ => none
theorem tg_pair (i j : Nat) {x y : Str} {p1 p2 p3 : Pos} {k : Nat} (hc : X.calm = true) (hN : X.N.Nodup) (hi : X.N[i]? = some x) (hj : X.N[j]? = some y) (hx : scope.names.lookup x = some .local) (hy : scope.names.lookup y = some .local) (hvi : i ∈ vs) (hvj : j ∈ vs) :
    TgLc X scope vs (.Tuple [.Name x p1, .Name y p2] k p3) (gTup X.K 2 (gCons (gName i) (gCons (gName j) gNil))) (app2 i j) where
  pg := fun s H C cl fp => pg_tup (X := X.blk s H scope (compEnvC scope cl C X.env) fp) hc (pgs_cons (pg_name hN hi (.inl (lookup_relabel_local hx)) (.inr (lookup_relabel_local hx))) (pgs_cons (pg_name hN hj (.inl (lookup_relabel_local hy)) (.inr (lookup_relabel_local hy))) pgs_nil))
  go := fun σ H θ v d ds ds' e r L => by
    have hd : ∃ a b, d = .tup [a, b] ∧ ds' = (ds.set i (some a)).set j (some b) := by
      unfold app2 at e
      split at e
      · cases e; exact ⟨_, _, rfl, rfl⟩
      · cases e
    obtain ⟨a, b, rfl, rfl⟩ := hd
    obtain ⟨ad, ws, rfl, s, rs⟩ := rep_tup r
    obtain ⟨v1, v2, rfl, r1, r2⟩ := reps2 rs
    refine ⟨_, fun Q q => ⟨ad, [v1, v2], rfl, s, rfl, v1, [v2], rfl, v2, [], rfl, rfl, q⟩, (L.set r1 i).set r2 j, ?_⟩
    rw [wipe_set hvj, wipe_set hvi]
    exact wipe_wipe fun _ h => h
end
def WTs (X : Cx) (B : Bs) (ds : List (Option D)) (ms : List Ob) (ifs : List Expr) (Q : Bool → List Ob → Prop) : Prop := match ifs with
  | [] => Q true ms
  | [c] => WT X B ds ms c Q
  | _ => False
def ttsCan (X : Cx) (ifs : List Expr) : TT := fun σ H Q => ∀ pins s, Inv X pins σ H s →
  wpAny (model X.prog X.w) X.A (forIn ifs true fun c r => if r = true then do let ok ← isTrue c X.env (eval c X.env); pure (ForInStep.yield ok) else pure (ForInStep.yield r)) (TP X pins σ Q) X.xe s
theorem WTs.bind {X : Cx} {B : Bs} {ds : List (Option D)} {ms : List Ob} {ifs : List Expr} {Q' : Bool → List Ob → Prop} (h : WTs X B ds ms ifs Q') {σ : St} {H : Hp} {θ : List Addr} (S : Sat X.K B θ ms H) (L : Slr X.K θ H ds σ) {R : Bool → Hp → Prop}
    (q : ∀ b m H1 more, Q' b m → ImmP H H1 → Sat X.K B (θ ++ more) m H1 → Slr X.K (θ ++ more) H1 ds σ → R b H1) : ttsCan X ifs σ H R := by
  match ifs, h with
  | [], h => exact fun pins s I => pts_nil.run pins s σ H R I (q true ms H [] h (ImmP.refl _) (by rw [List.append_nil]; exact S) (by rw [List.append_nil]; exact L))
  | [c], h => exact fun pins s I => (pts_one pt_can).run pins s σ H R I (WT.bind (show WT X B ds ms c Q' from h) S L q)
/-- what is made is kept, or all new objects but it are forgotten -/
def Kept (n : Nat) (d : D) (m : List Ob) (Q : D → List Ob → Prop) : Prop :=
  Q d m ∨ (n ≤ m.length ∧ (m.take n).all (Ob.cl n) = true ∧ D.cl n d = true ∧ Q d (m.take n))
def tsB (X : Cx) (scope : Scope) (ifs : List Expr) : TT := fun σ H Q => ∀ (s : Shared) (H0 : Hp) (C : Addr) (cl : List (Str × Addr)) (fp : List Addr), ttsCan (X.blk s H0 scope (compEnvC scope cl C X.env) fp) ifs σ H Q
def teB (X : Cx) (scope : Scope) (e : Expr) : TE := fun σ H Q => ∀ (s : Shared) (H0 : Hp) (C : Addr) (cl : List (Str × Addr)) (fp : List Addr), tCan (X.blk s H0 scope (compEnvC scope cl C X.env) fp) e σ H Q
section
variable {X : Cx} {B : Bs} {ds : List (Option D)} {ms : List Ob} {Q : D → List Ob → Prop} {elt kx vx tg iter : Expr} {ifs : List Expr} {scope : Scope} {own : List (Str × Nat)} {pos : Pos} {g : TG} {app : D → List (Option D) → Option (List (Option D))}
/-- the word of a list comprehension -/
def LcWord (X : Cx) (ds : List (Option D)) (scope : Scope) (vs : List Nat) (app : D → List (Option D) → Option (List (Option D))) (ifs : List Expr) (elt : Expr) (items : List D) (G : List Ob → Prop) (m : List Ob) (Q : D → List Ob → Prop) : Prop :=
  ∃ Iv : Nat → List D → List Ob → Prop, Iv 0 [] m ∧ (∀ i acc m', Iv i acc m' → G m') ∧
    (∀ i d acc m', items[i]? = some d → Iv i acc m' → acc.length < sizeLine ∧ ∃ ds', app d (wipeD ds vs) = some ds' ∧ ∀ (B : Bs) (s : Shared) (H : Hp) (C : Addr) (cl : List (Str × Addr)) (fp : List Addr),
      WTs (X.blk s H scope (compEnvC scope cl C X.env) fp) B ds' m' ifs fun b m3 => (b = true → ∀ (s : Shared) (H : Hp) (C : Addr) (cl : List (Str × Addr)) (fp : List Addr), WE (X.blk s H scope (compEnvC scope cl C X.env) fp) B ds' m3 elt fun y m4 => Kept m'.length y m4 fun y m5 => Iv (i + 1) (acc ++ [y]) m5) ∧ (b = false → Iv (i + 1) acc m3)) ∧
    (∀ acc m', Iv items.length acc m' → Q (.obj m'.length) (m' ++ [.lst acc]))
theorem lc_read (T : TgLc X scope (own.map (·.2)) tg g app) (h : WI X B ds ms tg iter fun items G m => LcWord X ds scope (own.map (·.2)) app ifs elt items G m Q) {σ : St} {H : Hp} {θ : List Addr} (S : Sat X.K B θ ms H) (L : Slr X.K θ H ds σ) :
    tLc (tiCan X tg iter) g (tsB X scope ifs) (teB X scope elt) (own.map (·.2)) σ H (PV X.K B θ H Q) := by
  intro pins s I
  refine thn (h σ H θ S L pins s I) fun v s1 h1 => thn h1 fun itv s2 h2 => ?_
  obtain ⟨it, fp, tn, J, H1, e1, I1, T0, t0, hfp, items, G, m, more, im, S1, ⟨Iv, i0, iG, step, done⟩, Gh, Y, W, wg, wy⟩ := h2
  refine ⟨it, fp, tn, J, H1, e1, I1, T0, t0, hfp, fun Dl hD => ?_⟩
  have hlen : (θ ++ more).length = m.length := S1.len
  have L1 := L.mono (Le.app θ more) im
  have bD : Dl ∈ B.T0 ∨ B.H0 Dl = none := by
    by_cases hT : Dl ∈ B.T0
    · exact .inl hT
    · right
      cases q : B.H0 Dl with
      | none => rfl
      | some o => have := S1.keep Dl o q hT; rw [hD] at this; cases this
  refine lc_it W (fun i H' => ∃ acc ws ms' θ', H' Dl = some (.lst ws) ∧ Reps X.K θ' H' acc ws ∧ Dl ∉ θ' ∧ ImmP H1 H' ∧ θ'.take (θ ++ more).length = θ ++ more ∧ Sat X.K B θ' ms' H' ∧ Iv i acc ms')
    ⟨[], [], m, θ ++ more, upd_same, mk_nil, S1.notIn hD, ImmP.new hD, List.take_length, S1.fresh hD, i0⟩ (fun i H' _ ⟨acc, ws, ms', θ', hw, rw', nD, im', t', S', q⟩ => wg θ' ms' H' im' t' S' (iG i acc ms' q)) (fun i x H' H2 hi p y => ?_) (fun H' p => ?_)
  · obtain ⟨acc, ws, ms', θ', hw, rw', nD, im', t', S', q⟩ := p
    obtain ⟨d, hd, sm2, S2, r2⟩ := wy i x H' H2 θ' ms' hi im' t' S' (iG i acc ms' q) y
    have im2 : ImmP H' H2 := fun a o h _ => sm2 a o h
    obtain ⟨hz, ds', ea, body⟩ := step i d acc ms' hd q
    have L2' : Slr X.K θ' H2 ds σ := L1.mono (le_of_take t') (im'.trans im2)
    obtain ⟨σ2, hg, L3, hwp⟩ := T.go σ H2 θ' x d _ ds' ea r2 (L2'.wipe _)
    refine hg _ ⟨hwp, fun s H0 C cl fp => ?_⟩
    refine WTs.bind (body ⟨H2, θ'⟩ s H0 C cl fp) S2.here L3 fun b m3 H3 more3 q3 im3 S3 L4 => ?_
    have hw3 : H3 Dl = some (.lst ws) := S3.keep Dl _ (sm2 _ _ hw) nD
    have nD3 : Dl ∉ θ' ++ more3 := fun z => by
      rcases S3.new Dl z with q | q
      · exact nD q
      · have := sm2 _ _ hw
        rw [show H2 Dl = none from q] at this; cases this
    have tk : ∀ {θ'' : List Addr}, θ''.take θ'.length = θ' → θ''.take (θ ++ more).length = θ ++ more := fun {θ''} z => by
      have hl := le_len t'
      have : (θ''.take θ'.length).take (θ ++ more).length = θ ++ more := by rw [z]; exact t'
      rw [List.take_take] at this
      rw [show min (θ ++ more).length θ'.length = (θ ++ more).length by omega] at this
      exact this
    cases b with
    | false =>
      exact ⟨acc, ws, m3, θ' ++ more3, hw3, Reps.mono (Le.app _ _) (im2.trans im3) _ _ rw', nD3, (im'.trans im2).trans im3, tk (by simp), S2.rebase S3, q3.2 rfl⟩
    | true =>
      intro s' H0' C' cl' fp'
      refine WE.bind (q3.1 rfl s' H0' C' cl' fp') S3 L4 fun y m4 yv H4 more4 q4 r4 im4 S4 L5 => ?_
      have hw4 : H4 Dl = some (.lst ws) := S4.keep Dl _ (sm2 _ _ hw) nD
      have nD4 : Dl ∉ θ' ++ more3 ++ more4 := fun z => by
        rcases S4.new Dl z with q | q
        · exact nD q
        · have := sm2 _ _ hw
          rw [show H2 Dl = none from q] at this; cases this
      have SB : Sat X.K B (θ' ++ more3 ++ more4) m4 H4 := S2.rebase S4
      have rws : Reps X.K (θ' ++ more3 ++ more4) H4 acc ws := Reps.mono ((Le.app _ _).trans (Le.app _ _)) ((im2.trans im3).trans im4) _ _ rw'
      have imA : ImmP H1 H4 := ((im'.trans im2).trans im3).trans im4
      refine ⟨ws, hw4, by rw [rw'.length]; exact hz, ?_⟩
      -- the new item, whatever is kept
      have fin : ∀ (θ'' : List Addr) (m5 : List Ob), Dl ∉ θ'' → Sat X.K B θ'' m5 H4 → Reps X.K θ'' H4 acc ws → Rep X.K θ'' H4 y yv → θ''.take θ'.length = θ' → Iv (i + 1) (acc ++ [y]) m5 →
          ∃ acc ws ms' θ', upd H4 Dl (.lst (_ ++ [yv])) Dl = some (.lst ws) ∧ Reps X.K θ' (upd H4 Dl (.lst (_ ++ [yv]))) acc ws ∧ Dl ∉ θ' ∧ ImmP H1 (upd H4 Dl (.lst (_ ++ [yv]))) ∧ θ'.take (θ ++ more).length = θ ++ more ∧ Sat X.K B θ' ms' (upd H4 Dl (.lst (_ ++ [yv]))) ∧ Iv (i + 1) acc ms' := fun θ'' m5 n5 S5 r5 ry t5 q5 => by
        obtain ⟨S6, im6⟩ := S5.other (o := .lst (ws ++ [yv])) n5 bD hw4 rfl
        exact ⟨acc ++ [y], ws ++ [yv], m5, θ'', upd_same, Reps.mono (Le.refl _) im6 _ _ (r5.append (mk_cons ry mk_nil)), n5, imA.trans im6, tk t5, S6, q5⟩
      rcases q4 with q4 | ⟨hn, c1, c2, q4⟩
      · exact fin _ m4 nD4 SB rws r4 (by rw [List.append_assoc]; simp) q4
      · have e5 : (θ' ++ more3 ++ more4).take ms'.length = θ' := by
          rw [← S'.len, List.append_assoc]; simp
        have S5 := SB.cut hn c1
        rw [e5] at S5
        have r5 := Rep.cut (n := ms'.length) y yv c2 r4
        rw [e5] at r5
        exact fin θ' _ nD S5 (Reps.mono (Le.refl _) ((im2.trans im3).trans im4) _ _ rw') r5 (by simp) q4
  · obtain ⟨acc, ws, ms', θ', hw, rw', nD, im', t', S', q⟩ := p
    have e : θ' = θ ++ (more ++ θ'.drop (θ ++ more).length) := by
      rw [← List.append_assoc]
      conv => lhs; rw [← List.take_append_drop (θ ++ more).length θ', t']
    have S2 := S'.adopt (ob := .lst acc) nD bD ⟨ws, hw, Reps.mono (Le.app _ _) (ImmP.refl _) _ _ rw'⟩
    refine ⟨.obj ms'.length, ms' ++ [.lst acc], more ++ θ'.drop (θ ++ more).length ++ [Dl], ?_, im.trans im', ?_, done acc ms' q⟩
    · rw [← List.append_assoc, ← e]
      exact mk_obj (by rw [← S'.len]; simp)
    · rw [← List.append_assoc, ← e]
      exact S2
theorem we_lc (hc : X.calm = true) (hN : X.N.Nodup) (ok : BlkOk X.N X.env.scope scope own) (T : TgLc X scope (own.map (·.2)) tg g app) (h : WI X B ds ms tg iter fun items G m => LcWord X ds scope (own.map (·.2)) app ifs elt items G m Q)
    (hs : ∀ x, foldedSetIterable iter X.env x = pure x := by intro _; rfl) : WE X B ds ms (.ListComp elt [⟨tg, iter, ifs, 0⟩] scope pos) Q :=
  WE.pe (pe_lc hc hN pi_can ok T.pg (tt := tsB X scope ifs) (te := teB X scope elt) (fun s H C cl fp => ⟨fun pins s' σ H Q I h => h s _ C cl fp pins s' I⟩) (fun s H C cl fp => ⟨fun pins s' σ H Q I h => h s _ C cl fp pins s' I⟩) hs) fun σ H θ S L => lc_read T h S L
/-- x = [..] on one line, x a local -/
theorem ws_setLc (i : Nat) {fl : Nat} {E : En} {y : Str} {py spos : Pos} (hc : X.calm = true) (hN : X.N.Nodup) (hy : X.N[i]? = some y) (hyl : X.env.scope.names.lookup y = some .local) (ok : BlkOk X.N X.env.scope scope own)
    (T : TgLc X scope (own.map (·.2)) tg g app) (h : WI X B ds ms tg iter fun items G m => LcWord X ds scope (own.map (·.2)) app ifs elt items G m fun d m' => E.nx (ds.set i (some d)) m')
    (hsw : swapsWith (.ListComp elt [⟨tg, iter, ifs, 0⟩] scope pos) (some (.Name y py)) spos.line X.env = pure true)
    (hs : ∀ x, foldedSetIterable iter X.env x = pure x := by intro _; rfl) : WS X B fl ds ms (.Assign [.Name y py] (.ListComp elt [⟨tg, iter, ifs, 0⟩] scope pos) spos) E := .mk fun σ H θ hf S L =>
  can_ps (ps_setLc hc hN hy hyl hsw pi_can ok T.pg (tt := tsB X scope ifs) (te := teB X scope elt) (fun s H C cl fp => ⟨fun pins s' σ H Q I h => h s _ C cl fp pins s' I⟩) (fun s H C cl fp => ⟨fun pins s' σ H Q I h => h s _ C cl fp pins s' I⟩) hs)
    (by
      have hr := lc_read (Q := fun d m' => E.nx (ds.set i (some d)) m') T h S L
      have key : ∀ v H', PV X.K B θ H (fun d m' => E.nx (ds.set i (some d)) m') v H' → gName i v σ H' (enOf X.K B fl θ H E).nx := fun v H' ⟨d, m, more, r, im, S1, q⟩ => ⟨ds.set i (some d), m, θ ++ more, (L.mono (Le.app _ _) im).set r i, im, take_app hf, S1, q⟩
      show tLc (tiCan X tg iter) g (tsB X scope ifs) (teB X scope elt) (own.map (·.2)) σ H fun x H1 => gName i x σ H1 (enOf X.K B fl θ H E).nx
      intro pins s I
      refine thn (hr pins s I) fun v s1 h1 => thn h1 fun itv s2 h2 => ?_
      obtain ⟨it, fp, tn, J, H1, e1, I1, T0, t0, hfp, q⟩ := h2
      refine ⟨it, fp, tn, J, H1, e1, I1, T0, t0, hfp, fun Dl hD => ?_⟩
      obtain ⟨W, w0, tr⟩ := q Dl hD
      exact ⟨W, w0, fun i m H w => (tr i m H w).imp (fun z => ⟨z.1, key _ _ z.2⟩) id⟩)
end
end VL

namespace VL
open PySem PySem.Spec PyProof.Rows L2

/-! ## another numbering -/
mutual
def D.ren (f : Nat → Nat) : D → D
  | .tup ds => .tup (renAll f ds)
  | .rol ds => .rol (renAll f ds)
  | .rod ks ds => .rod ks (renAll f ds)
  | .obj k => .obj (f k)
  | .non => .non
  | .bl b => .bl b
  | .int i => .int i
  | .str x => .str x
  | .ref a => .ref a
  | .ty n => .ty n
def renAll (f : Nat → Nat) : List D → List D
  | [] => []
  | d :: ds => D.ren f d :: renAll f ds
end
theorem renAll_len (f : Nat → Nat) : ∀ ds : List D, (renAll f ds).length = ds.length
  | [] => by unfold renAll; rfl
  | d :: ds => by unfold renAll; rw [List.length_cons, List.length_cons, renAll_len f ds]
def renKV {κ : Type} (f : Nat → Nat) : List (κ × D) → List (κ × D)
  | [] => []
  | (k, d) :: r => (k, d.ren f) :: renKV f r
def Ob.ren (f : Nat → Nat) : Ob → Ob
  | .lst ds => .lst (renAll f ds)
  | .dK kvs => .dK (renKV f kvs)
  | .dT kvs => .dT (renKV f kvs)
  | .ins C fs => .ins C (renKV f fs)
section
variable {K : PySem.W.Frag} {θ θl : List Addr} {H : Hp} {f : Nat → Nat}
mutual
theorem Rep.ren (h : ∀ (k : Nat) (a : Addr), θl[k]? = some a → θ[f k]? = some a) : ∀ (d : D) (v : V), Rep K θl H d v → Rep K θ H (d.ren f) v
  | .non, _, r => by unfold Rep at r; unfold D.ren Rep; exact r
  | .bl _, _, r => by unfold Rep at r; unfold D.ren Rep; exact r
  | .int _, _, r => by unfold Rep at r; unfold D.ren Rep; exact r
  | .str _, _, r => by unfold Rep at r; unfold D.ren Rep; exact r
  | .ref _, _, r => by unfold Rep at r; unfold D.ren Rep; exact r
  | .ty _, _, r => by unfold Rep at r; unfold D.ren Rep; exact r
  | .obj k, _, r => by
    unfold Rep at r; unfold D.ren Rep
    obtain ⟨a, e, q⟩ := r
    exact ⟨a, h k a e, q⟩
  | .tup ds, _, r => by
    unfold Rep at r; unfold D.ren Rep
    obtain ⟨a, vs, e, s, q⟩ := r
    exact ⟨a, vs, e, s, Reps.ren h ds vs q⟩
  | .rol ds, _, r => by
    unfold Rep at r; unfold D.ren Rep
    obtain ⟨a, vs, e, s, q⟩ := r
    exact ⟨a, vs, e, s, Reps.ren h ds vs q⟩
  | .rod ks ds, _, r => by
    unfold Rep at r; unfold D.ren Rep
    obtain ⟨a, vs, e, s, l, q⟩ := r
    exact ⟨a, vs, e, s, by rw [renAll_len]; exact l, Reps.ren h ds vs q⟩
theorem Reps.ren (h : ∀ (k : Nat) (a : Addr), θl[k]? = some a → θ[f k]? = some a) : ∀ (ds : List D) (vs : List V), Reps K θl H ds vs → Reps K θ H (renAll f ds) vs
  | [], _, r => by unfold Reps at r; unfold renAll Reps; exact r
  | d :: ds, _, r => by
    unfold Reps at r; unfold renAll Reps
    obtain ⟨v, vs', e, r1, rs⟩ := r
    exact ⟨v, vs', e, Rep.ren h d v r1, Reps.ren h ds vs' rs⟩
end
mutual
theorem Rep.unren (h : ∀ (k : Nat) (a : Addr), θ[f k]? = some a → θl[k]? = some a) : ∀ (d : D) (v : V), Rep K θ H (d.ren f) v → Rep K θl H d v
  | .non, _, r => by unfold D.ren Rep at r; unfold Rep; exact r
  | .bl _, _, r => by unfold D.ren Rep at r; unfold Rep; exact r
  | .int _, _, r => by unfold D.ren Rep at r; unfold Rep; exact r
  | .str _, _, r => by unfold D.ren Rep at r; unfold Rep; exact r
  | .ref _, _, r => by unfold D.ren Rep at r; unfold Rep; exact r
  | .ty _, _, r => by unfold D.ren Rep at r; unfold Rep; exact r
  | .obj k, _, r => by
    unfold D.ren Rep at r; unfold Rep
    obtain ⟨a, e, q⟩ := r
    exact ⟨a, h k a e, q⟩
  | .tup ds, _, r => by
    unfold D.ren Rep at r; unfold Rep
    obtain ⟨a, vs, e, s, q⟩ := r
    exact ⟨a, vs, e, s, Reps.unren h ds vs q⟩
  | .rol ds, _, r => by
    unfold D.ren Rep at r; unfold Rep
    obtain ⟨a, vs, e, s, q⟩ := r
    exact ⟨a, vs, e, s, Reps.unren h ds vs q⟩
  | .rod ks ds, _, r => by
    unfold D.ren Rep at r; unfold Rep
    obtain ⟨a, vs, e, s, l, q⟩ := r
    exact ⟨a, vs, e, s, by rw [renAll_len] at l; exact l, Reps.unren h ds vs q⟩
theorem Reps.unren (h : ∀ (k : Nat) (a : Addr), θ[f k]? = some a → θl[k]? = some a) : ∀ (ds : List D) (vs : List V), Reps K θ H (renAll f ds) vs → Reps K θl H ds vs
  | [], _, r => by unfold renAll Reps at r; unfold Reps; exact r
  | d :: ds, _, r => by
    unfold renAll Reps at r; unfold Reps
    obtain ⟨v, vs', e, r1, rs⟩ := r
    exact ⟨v, vs', e, Rep.unren h d v r1, Reps.unren h ds vs' rs⟩
end
theorem RepKV.ren {κ : Type} (h : ∀ (k : Nat) (a : Addr), θl[k]? = some a → θ[f k]? = some a) : ∀ (ds : List (κ × D)) (vs : List (κ × V)), RepKV K θl H ds vs → RepKV K θ H (renKV f ds) vs
  | [], _, r => r
  | (k, d) :: ds, _, r => by
    obtain ⟨v, vs', e, r1, rs⟩ := r
    exact ⟨v, vs', e, Rep.ren h d v r1, RepKV.ren h ds vs' rs⟩
theorem RepKV.unren {κ : Type} (h : ∀ (k : Nat) (a : Addr), θ[f k]? = some a → θl[k]? = some a) : ∀ (ds : List (κ × D)) (vs : List (κ × V)), RepKV K θ H (renKV f ds) vs → RepKV K θl H ds vs
  | [], _, r => r
  | (k, d) :: ds, _, r => by
    obtain ⟨v, vs', e, r1, rs⟩ := r
    exact ⟨v, vs', e, Rep.unren h d v r1, RepKV.unren h ds vs' rs⟩
theorem obR_ren (h : ∀ (k : Nat) (b : Addr), θl[k]? = some b → θ[f k]? = some b) {a : Addr} : ∀ {ob : Ob}, ObR K θl H a ob → ObR K θ H a (ob.ren f)
  | .lst _, ⟨vs, e, r⟩ => ⟨vs, e, Reps.ren h _ _ r⟩
  | .dK _, ⟨vs, e, r⟩ => ⟨vs, e, RepKV.ren h _ _ r⟩
  | .dT _, ⟨vs, e, r⟩ => ⟨vs, e, RepKV.ren h _ _ r⟩
  | .ins _ _, ⟨dx, vs, e, r⟩ => ⟨dx, vs, e, RepKV.ren h _ _ r⟩
theorem obR_unren (h : ∀ (k : Nat) (b : Addr), θ[f k]? = some b → θl[k]? = some b) {a : Addr} : ∀ {ob : Ob}, ObR K θ H a (ob.ren f) → ObR K θl H a ob
  | .lst _, ⟨vs, e, r⟩ => ⟨vs, e, Reps.unren h _ _ r⟩
  | .dK _, ⟨vs, e, r⟩ => ⟨vs, e, RepKV.unren h _ _ r⟩
  | .dT _, ⟨vs, e, r⟩ => ⟨vs, e, RepKV.unren h _ _ r⟩
  | .ins _ _, ⟨dx, vs, e, r⟩ => ⟨dx, vs, e, RepKV.unren h _ _ r⟩
end

/-! ## the callee's part of the store -/
/-- the place of the callee's object: one of the caller's, or a new one -/
def fr (ι : List Nat) (n : Nat) (j : Nat) : Nat := if h : j < ι.length then ι[j] else n + (j - ι.length)
def over (f : Nat → Nat) : List Nat → List Ob → List Ob → List Ob
  | [], ms, ml => ms ++ ml.map (Ob.ren f)
  | _ :: _, ms, [] => ms
  | k :: ι, ms, ob :: ml => over f ι (ms.set k (ob.ren f)) ml
structure Fr (ms : List Ob) (dl : List D) (ι : List Nat) (ml : List Ob) (dll : List D) : Prop where
  nd : ι.Nodup
  len : ι.length = ml.length
  at_ : ∀ (j k : Nat), ι[j]? = some k → ∃ ob, ml[j]? = some ob ∧ ms[k]? = some (ob.ren (fr ι ms.length))
  args : dl = renAll (fr ι ms.length) dll
theorem over_length (f : Nat → Nat) : ∀ (ι : List Nat) (ms ml : List Ob), ι.length ≤ ml.length → (over f ι ms ml).length = ms.length + (ml.length - ι.length)
  | [], ms, ml, _ => by simp [over]
  | _ :: _, _, [], h => by simp at h
  | k :: ι, ms, ob :: ml, h => by
    have ih := over_length f ι (ms.set k (ob.ren f)) ml (by simpa using h)
    unfold over
    rw [ih]
    simp
theorem over_get (f : Nat → Nat) : ∀ (ι : List Nat) (ms ml : List Ob) (k : Nat) (ob : Ob), ι.Nodup → ι.length ≤ ml.length → (∀ k ∈ ι, k < ms.length) → (over f ι ms ml)[k]? = some ob →
    (∃ (j : Nat) (o : Ob), ι[j]? = some k ∧ ml[j]? = some o ∧ ob = o.ren f) ∨ (k < ms.length ∧ k ∉ ι ∧ ms[k]? = some ob) ∨ (∃ (i : Nat) (o : Ob), k = ms.length + i ∧ ml[ι.length + i]? = some o ∧ ob = o.ren f)
  | [], ms, ml, k, ob, _, _, _, h => by
    unfold over at h
    by_cases hk : k < ms.length
    · rw [List.getElem?_append_left hk] at h
      exact .inr (.inl ⟨hk, by simp, h⟩)
    · rw [List.getElem?_append_right (by omega), List.getElem?_map] at h
      obtain ⟨o, e, q⟩ := Option.map_eq_some_iff.mp h
      exact .inr (.inr ⟨k - ms.length, o, by omega, by simpa using e, q.symm⟩)
  | _ :: _, _, [], _, _, _, h, _, _ => by simp at h
  | c :: ι, ms, o0 :: ml, k, ob, nd, hl, hb, h => by
    unfold over at h
    have nd' := List.nodup_cons.mp nd
    rcases over_get f ι (ms.set c (o0.ren f)) ml k ob nd'.2 (by simpa using hl) (fun j hj => by rw [List.length_set]; exact hb j (List.mem_cons_of_mem _ hj)) h with ⟨j, o, e1, e2, e3⟩ | ⟨h1, h2, h3⟩ | ⟨i, o, e1, e2, e3⟩
    · exact .inl ⟨j + 1, o, by simpa using e1, by simpa using e2, e3⟩
    · by_cases hc : k = c
      · subst hc
        rw [List.getElem?_set_self (by simpa using h1)] at h3
        exact .inl ⟨0, o0, rfl, rfl, (Option.some.inj h3).symm⟩
      · rw [List.getElem?_set_ne (Ne.symm hc)] at h3
        exact .inr (.inl ⟨by simpa using h1, by simp [hc, h2], h3⟩)
    · exact .inr (.inr ⟨i, o, by simpa using e1, by rw [List.length_cons, show ι.length + 1 + i = ι.length + i + 1 by omega]; simpa using e2, e3⟩)

section
variable {K : PySem.W.Frag} {B : Bs} {θ : List Addr} {ms ml : List Ob} {H : Hp} {ι : List Nat} {dl dll : List D}
/-- the callee's places -/
def sub (θ : List Addr) (ι : List Nat) : List Addr := ι.map fun k => θ.getD k 0
theorem sub_get {j : Nat} {a : Addr} (hb : ∀ k ∈ ι, k < θ.length) (h : (sub θ ι)[j]? = some a) : ∃ k, ι[j]? = some k ∧ θ[k]? = some a := by
  unfold sub at h
  rw [List.getElem?_map] at h
  obtain ⟨k, e, q⟩ := Option.map_eq_some_iff.mp h
  have hk := hb k (List.mem_of_getElem? e)
  refine ⟨k, e, ?_⟩
  rw [List.getElem?_eq_getElem hk, ← q, List.getD_eq_getElem?_getD, List.getElem?_eq_getElem hk]
  rfl
theorem Fr.bound (F : Fr ms dl ι ml dll) (S : Sat K B θ ms H) : ∀ k ∈ ι, k < θ.length := fun k hk => by
  obtain ⟨j, hj, e⟩ := List.getElem_of_mem hk
  obtain ⟨ob, _, h2⟩ := F.at_ j k (by rw [List.getElem?_eq_getElem hj, e])
  rw [S.len]
  exact (List.getElem?_eq_some_iff.mp h2).1
theorem Fr.go (F : Fr ms dl ι ml dll) (S : Sat K B θ ms H) : ∀ (k : Nat) (a : Addr), θ[fr ι ms.length k]? = some a → (sub θ ι)[k]? = some a := fun k a h => by
  unfold fr at h
  by_cases hk : k < ι.length
  · rw [dif_pos hk] at h
    unfold sub
    rw [List.getElem?_map, List.getElem?_eq_getElem hk]
    show some (θ.getD ι[k] 0) = some a
    rw [List.getD_eq_getElem?_getD, h]
    rfl
  · rw [dif_neg hk] at h
    have := (List.getElem?_eq_some_iff.mp h).1
    rw [S.len] at this
    omega
theorem Fr.sat (F : Fr ms dl ι ml dll) (S : Sat K B θ ms H) : Sat K ⟨H, sub θ ι⟩ (sub θ ι) ml H where
  len := by unfold sub; rw [List.length_map]; exact F.len
  nd := by
    have hb := F.bound S
    unfold List.Nodup sub
    rw [List.pairwise_map]
    refine List.Pairwise.imp_of_mem (fun {x y} hx hy hne => ?_) F.nd
    have h1 := hb x hx
    have h2 := hb y hy
    rw [List.getD_eq_getElem?_getD, List.getD_eq_getElem?_getD, List.getElem?_eq_getElem h1, List.getElem?_eq_getElem h2]
    exact fun e => hne ((List.getElem_inj S.nd).mp e)
  obs := fun j ob a h1 h2 => by
    obtain ⟨k, e1, e2⟩ := sub_get (F.bound S) h2
    obtain ⟨o, q1, q2⟩ := F.at_ j k e1
    rw [h1] at q1; cases q1
    exact obR_unren (F.go S) (S.obs k _ a q2 e2)
  keep := fun _ _ h _ => h
  new := fun a h => .inl h
theorem Fr.reps (F : Fr ms dl ι ml dll) (S : Sat K B θ ms H) {vs : List V} (r : Reps K θ H dl vs) : Reps K (sub θ ι) H dll vs := by
  rw [F.args] at r
  exact Reps.unren (F.go S) _ _ r
theorem Fr.back (F : Fr ms dl ι ml dll) (S : Sat K B θ ms H) {ml' : List Ob} {H' : Hp} {more : List Addr} (im : ImmP H H') (S' : Sat K ⟨H, sub θ ι⟩ (sub θ ι ++ more) ml' H') :
    Sat K B (θ ++ more) (over (fr ι ms.length) ι ms ml') H' ∧ ι.length ≤ ml'.length ∧ ∀ (k : Nat) (a : Addr), (sub θ ι ++ more)[k]? = some a → (θ ++ more)[fr ι ms.length k]? = some a := by
  have hb := F.bound S
  have hsl : (sub θ ι).length = ι.length := by unfold sub; rw [List.length_map]
  have hlen : ι.length ≤ ml'.length := by have := S'.len; rw [List.length_append, hsl] at this; omega
  have hml : ml'.length = ι.length + more.length := by have := S'.len; rw [List.length_append, hsl] at this; omega
  have go : ∀ (k : Nat) (a : Addr), (sub θ ι ++ more)[k]? = some a → (θ ++ more)[fr ι ms.length k]? = some a := fun k a h => by
    unfold fr
    by_cases hk : k < ι.length
    · rw [dif_pos hk]
      rw [List.getElem?_append_left (by rw [hsl]; exact hk)] at h
      obtain ⟨c, e1, e2⟩ := sub_get hb h
      rw [List.getElem?_eq_getElem hk] at e1
      cases e1
      rw [List.getElem?_append_left (hb _ (List.getElem_mem hk))]
      exact e2
    · rw [dif_neg hk]
      rw [List.getElem?_append_right (by rw [hsl]; omega), hsl] at h
      rw [← S.len, List.getElem?_append_right (by omega), show θ.length + (k - ι.length) - θ.length = k - ι.length by omega]
      exact h
  have fresh : ∀ a ∈ more, H a = none := fun a ha => by
    rcases S'.new a (List.mem_append_right _ ha) with z | z
    · exact absurd rfl ((List.nodup_append.mp S'.nd).2.2 a z a ha)
    · exact z
  have subT : ∀ a ∈ sub θ ι, a ∈ θ := fun a ha => by
    obtain ⟨j, hj, e⟩ := List.getElem_of_mem ha
    obtain ⟨k, _, e2⟩ := sub_get (θ := θ) (ι := ι) (j := j) (a := a) hb (by rw [List.getElem?_eq_getElem hj, e])
    exact List.mem_of_getElem? e2
  refine ⟨⟨?_, ?_, ?_, ?_, ?_⟩, hlen, go⟩
  · rw [over_length _ _ _ _ hlen, List.length_append, S.len, hml]; omega
  · refine List.nodup_append.mpr ⟨S.nd, (List.nodup_append.mp S'.nd).2.1, fun a ha b hb' e => ?_⟩
    subst e
    exact S.notIn (fresh a hb') ha
  · intro k ob a h1 h2
    rcases over_get _ ι ms ml' k ob F.nd hlen (fun j hj => by rw [← S.len]; exact hb j hj) h1 with ⟨j, o, e1, e2, e3⟩ | ⟨c1, c2, c3⟩ | ⟨i, o, e1, e2, e3⟩
    · subst e3
      have hk : k < θ.length := hb k (List.mem_of_getElem? e1)
      rw [List.getElem?_append_left hk] at h2
      have hj : (sub θ ι)[j]? = some a := by
        unfold sub
        rw [List.getElem?_map, e1]
        show some (θ.getD k 0) = some a
        rw [List.getD_eq_getElem?_getD, h2]; rfl
      have hj' : (sub θ ι ++ more)[j]? = some a := by
        rw [List.getElem?_append_left (List.getElem?_eq_some_iff.mp hj).1]; exact hj
      exact obR_ren go (S'.obs j o a e2 hj')
    · rw [List.getElem?_append_left (by rw [S.len]; exact c1)] at h2
      have hna : a ∉ sub θ ι := fun z => by
        obtain ⟨j, hj, e⟩ := List.getElem_of_mem z
        obtain ⟨k2, q1, q2⟩ := sub_get (θ := θ) (ι := ι) (j := j) (a := a) hb (by rw [List.getElem?_eq_getElem hj, e])
        obtain ⟨l1, e1⟩ := List.getElem?_eq_some_iff.mp h2
        obtain ⟨l2, e2⟩ := List.getElem?_eq_some_iff.mp q2
        have : k = k2 := (List.getElem_inj S.nd).mp (e1.trans e2.symm)
        subst this
        exact c2 (List.mem_of_getElem? q1)
      have hob := S.obs k ob a c3 h2
      obtain ⟨u, hu, _⟩ := hob.some
      exact hob.keep (Le.app _ _) im ((S'.keep a u hu hna).trans hu.symm)
    · subst e3
      have ht : (θ ++ more)[k]? = more[i]? := by
        rw [e1, ← S.len, List.getElem?_append_right (by omega)]
        congr 1; omega
      rw [ht] at h2
      have hj' : (sub θ ι ++ more)[ι.length + i]? = some a := by
        rw [List.getElem?_append_right (by rw [hsl]; omega), hsl]
        rw [show ι.length + i - ι.length = i by omega]; exact h2
      exact obR_ren go (S'.obs _ o a e2 hj')
  · intro b o e n
    refine S'.keep b o (S.keep b o e n) fun z => ?_
    rcases S.new b (subT b z) with q | q
    · exact n q
    · rw [e] at q; cases q
  · intro a ha
    rcases List.mem_append.mp ha with z | z
    · exact S.new a z
    · by_cases hT : a ∈ B.T0
      · exact .inl hT
      · right
        cases q : B.H0 a with
        | none => rfl
        | some o => have := S.keep a o q hT; rw [fresh a z] at this; cases this
end

/-! ## defs -/
abbrev VSp := List D → List Ob → (D → List Ob → Prop) → Prop
def spOf (K : PySem.W.Frag) (φ : VSp) : Sp := fun vs H Q _ => ∃ dl ms θ R, Reps K θ H dl vs ∧ Sat K ⟨H, θ⟩ θ ms H ∧ φ dl ms R ∧ ∀ d ms', R d ms' → ∀ v H' more, Rep K (θ ++ more) H' d v → ImmP H H' → Sat K ⟨H, θ⟩ (θ ++ more) ms' H' → Q v H'
def startD (n : Nat) (dl : List D) : List (Option D) := dl.map some ++ List.replicate (n - dl.length) none
theorem Slr.start {K : PySem.W.Frag} {θ : List Addr} {H : Hp} {dl : List D} {vs : List V} (r : Reps K θ H dl vs) (N : List Str) : Slr K θ H (startD N.length dl) (L2.start N vs) := by
  have hl := r.length
  refine ⟨by unfold startD L2.start; simp [hl], fun i d h => ?_⟩
  unfold startD at h
  unfold L2.start
  by_cases hi : i < dl.length
  · rw [List.getElem?_append_left (by simpa using hi), List.getElem?_map] at h
    obtain ⟨e, h1, h2⟩ := Option.map_eq_some_iff.mp h
    cases h2
    obtain ⟨v, e2, rv⟩ := r.get h1
    exact ⟨v, by rw [List.getElem?_append_left (by rw [List.length_map, hl]; exact hi), List.getElem?_map, e2]; rfl, rv⟩
  · rw [List.getElem?_append_right (by simpa using hi), List.getElem?_replicate] at h
    split at h <;> cases h
/-! ## a def's promise where no repr runs around -/
structure FnG (P : Program) (w : World) (K : PySem.W.Frag) (mg : Str → Option Value) (base : Heap) (k : Nat)
    (f : Addr) (fd : FuncData) (ps : List Str) (sp : Sp) : Prop where
  len : ∀ vs H Q, sp vs H Q E0 → vs.length = ps.length
  run : ∀ (A : Around) (outer : List Env) (s : Shared) (H : Hp) (args : Args) (us : List Value)
    (vs : List V) (Q : VK), Room k A → A.guards = some [] → Env0 P w K mg base A outer s H →
    BindsTo s fd args (ps.zip us) → Vals vs us → sp vs H Q E0 →
    codeAny (model P w) A (.call (.ref f) args) (CR CX0 outer P w H s Q E0) s
theorem FnG.up {P : Program} {w : World} {K : PySem.W.Frag} {mg : Str → Option Value} {base : Heap} {j k : Nat}
    {f : Addr} {fd : FuncData} {ps : List Str} {sp : Sp} (F : FnG P w K mg base j f fd ps sp) (h : j ≤ k) : FnG P w K mg base k f fd ps sp :=
  ⟨F.len, fun A outer s H args us vs Q hr => F.run A outer s H args us vs Q (hr.mono h)⟩
section
variable {P : Program} {w : World} {K : PySem.W.Frag} {mg : Str → Option Value} {base : Heap}
/-- the rule for a def, no exception leaves it -/
theorem fnG_of {k : Nat} {f : Addr} {x qual : Str} {st : Stmt} {fd : FuncData} {N ps : List Str} {sp : Sp}
    (F : Fun K x qual st f fd) (S : FnScope N ps (defScope st)) (len : ∀ vs H Q, sp vs H Q E0 → vs.length = ps.length)
    (hbody : ∀ (cdv : Value) (A : Around) (outer : List Env) (s : Shared) (H : Hp) (vs : List V) (Q : VK),
      Room k (A.deeper (envOfC qual (defScope st) s.heap.objs.size f cdv)) → A.guards = some [] → sp vs H Q E0 →
      tssCan (cxOf CX0 P w K mg base N qual (defScope st) f cdv A outer s H E0).nox (defBody st)
        ⟨fun _ H' => Q .non H', Q, fun _ _ => False, fun _ _ => False⟩ (L2.start N vs) H) : FnG P w K mg base (k + 1) f fd ps sp := by
  obtain ⟨oc, od, kV, doc, pm, an, cdv, ct, osl, rfl, lk, hcd⟩ := F.ex
  refine ⟨len, fun A outer s H args us vs Q hr hgd e0 hb r hsp => ?_⟩
  have hl : vs.length = ps.length := len _ _ _ hsp
  have kx : K.In s.heap :=
    e0.mod.kin.keeps fun b o e => (e0.bs b o e).1
  have lm : s.heap.NoLimit :=
    e0.mod.nolimit.keeps fun b o e => (e0.bs b o e).1
  have kinds : ∀ y ∈ ps.zip us, (defScope st).names.lookup y.1 = some .local ∨
      ((defScope st).names.lookup y.1 = some .cell ∧ ((cellsFrom (s.heap.objs.size + 1) (defScope st).names []).lookup y.1).isSome = true) := by
    rintro ⟨n, v⟩ hy
    rcases S.par n (List.of_mem_zip hy).1 with q | q
    · exact Or.inl q
    · exact Or.inr ⟨q, PySem.W.cellsFrom_some _ _ _ (.inl q)⟩
  refine codeAny_call_function hr.depth (kx _ _ lk) rfl S.co S.gen rfl (PySem.W.codeRec_of kx hcd)
    (hb _ _ _ _ ?_)
  refine wpAny_newFunctionEnv_cells S.kind kinds fun env he s1 hx => ?_
  cases he
  refine ⟨lm.keeps hx.toInCall.keep, codeAny_func ?_⟩
  have J := inv_start (CX := CX0) (E := E0) S hr.hd e0 hl r hx
  have J' := J.wish fun _ _ => False
  refine wpAny_mono (hbody cdv A outer s H vs Q (hr.deeper _) hgd hsp [] s1 J')
    (fun fl s' hs => ?_) fun e s' hs => hs.elim
  have fin : ∀ {σ' : St} {H' : Hp} {v : V} {u : Value},
      Inv ((cxOf CX0 P w K mg base N qual (defScope st) f cdv A outer s H E0).nox) [] σ' H' s' → RelV v u → Q v H' → CE outer P w H s Q u s' := by
    intro σ' H' v u I rv q
    exact ⟨v, H', I.os, I.bare, I.base, I.hok, rv, q⟩
  cases fl with
  | next =>
    obtain ⟨σ', H', I, q⟩ := hs
    exact fin (v := V.non) (u := Value.none) I rfl q
  | ret u =>
    obtain ⟨v, σ', H', I, rv, q⟩ := hs
    exact fin I rv q
  | brk => obtain ⟨_, _, _, q⟩ := hs; exact q.elim
  | cont => obtain ⟨_, _, _, q⟩ := hs; exact q.elim
/-- a def by its body -/
theorem vfn {x qual : Str} {st : Stmt} {f : Addr} {fd : FuncData} {N ps : List Str} {k : Nat} {φ : VSp} (F : Fun K x qual st f fd) (S : FnScope N ps (defScope st)) (len : ∀ dl ms R, φ dl ms R → dl.length = ps.length)
    (body : ∀ (cdv : Value) (A : Around) (outer : List Env) (s : Shared) (H : Hp), Room k (A.deeper (envOfC qual (defScope st) s.heap.objs.size f cdv)) → (A.deeper (envOfC qual (defScope st) s.heap.objs.size f cdv)).guards = some [] → ∀ (B : Bs) (dl : List D) (ms : List Ob) (R : D → List Ob → Prop), φ dl ms R →
      WSs (cxOf CX0 P w K mg base N qual (defScope st) f cdv A outer s H E0).nox B ms.length (startD N.length dl) ms (defBody st) ⟨fun _ m => R .non m, R, fun _ _ => False, fun _ _ => False⟩) : FnG P w K mg base (k + 1) f fd ps (spOf K φ) := by
  refine fnG_of F S (fun vs H Q h => ?_) (fun cdv A outer s H vs Q hr hgd h => ?_)
  · obtain ⟨dl, ms, θ, R, r, _, h, _⟩ := h
    rw [r.length]; exact len _ _ _ h
  · obtain ⟨dl, ms, θ, R, r, S0, h, hR⟩ := h
    have hb := body cdv A outer s H hr hgd ⟨H, θ⟩ dl ms _ h (L2.start N vs) H θ (Nat.le_of_eq S0.len.symm) S0 (Slr.start r N)
    have pre : ∀ {θ' : List Addr}, θ'.take ms.length = θ.take ms.length → ∃ more, θ' = θ ++ more := fun {θ'} t => by
      rw [List.take_of_length_le (Nat.le_of_eq S0.len)] at t
      exact ⟨θ'.drop ms.length, by rw [← t, List.take_append_drop]⟩
    refine hb.imp (fun σ' H' z => ?_) (fun v H' z => ?_) (fun σ' H' z => ?_) (fun σ' H' z => ?_)
    · obtain ⟨ds', ms', θ', L', im, t, S', q⟩ := z
      obtain ⟨more, rfl⟩ := pre t
      exact hR _ _ q _ _ more mk_non im S'
    · obtain ⟨d', ms', θ', r', im, t, S', q⟩ := z
      obtain ⟨more, rfl⟩ := pre t
      exact hR _ _ q _ _ more r' im S'
    · obtain ⟨_, _, _, _, _, _, _, q⟩ := z; exact q
    · obtain ⟨_, _, _, _, _, _, _, q⟩ := z; exact q
end
/-- a call by its promise -/
def CallF (φ : VSp) (dl : List D) (ms : List Ob) (Q : D → List Ob → Prop) : Prop :=
  ∃ ι ml dll, Fr ms dl ι ml dll ∧ φ dll ml fun d ml' => ι.length ≤ ml'.length → Q (d.ren (fr ι ms.length)) (over (fr ι ms.length) ι ms ml')
section
variable {X : Cx} {B : Bs} {ds : List (Option D)} {ms : List Ob} {Q : D → List Ob → Prop} {a : Expr} {pos : Pos} {φ : VSp}
theorem CallF.sp {dl : List D} {θ : List Addr} {H : Hp} {vs : List V} {K : PySem.W.Frag} (h : CallF φ dl ms Q) (S : Sat K B θ ms H) (r : Reps K θ H dl vs) {E : XK} : spOf K φ vs H (PV K B θ H Q) E := by
  obtain ⟨ι, ml, dll, F, q⟩ := h
  refine ⟨dll, ml, sub θ ι, _, F.reps S r, F.sat S, q, fun d ml' q v H' more rd im S' => ?_⟩
  obtain ⟨S2, hl, go⟩ := F.back S im S'
  exact ⟨_, _, more, Rep.ren go _ _ rd, im, S2, q hl⟩
theorem spOf.mono {K : PySem.W.Frag} {vs : List V} {H : Hp} {Q Q' : VK} {E E' : XK} (h : spOf K φ vs H Q E) (q : ∀ v H', Q v H' → Q' v H') : spOf K φ vs H Q' E' := by
  obtain ⟨dl, ms, θ, R, r, S, p, f⟩ := h
  exact ⟨dl, ms, θ, R, r, S, p, fun d ms' hr v H' more a b c => q _ _ (f d ms' hr v H' more a b c)⟩
variable {k : Nat} {f C : Addr} {fd : FuncData} {ps : List Str}
/-- the callee runs, called with values -/
theorem runG {pins : List (Addr × Obj)} {σ : St} {H : Hp} {s : Shared} {Qv : VK} {us : List Value} {vs : List V} {sp : Sp}
    (F : FnG X.prog X.w X.K X.mg X.base k f fd ps sp) (hr : Room k X.A) (hgd : X.A.guards = some []) (hb : Binds X.K fd ps [])
    (I : Inv X pins σ H s) (r : Vals vs us) (h : sp vs H Qv E0) : wpAny (model X.prog X.w) X.A (call (.ref f) us) (EP X pins σ Qv) X.xe s := by
  have hl : us.length = ps.length := r.length.symm.trans (F.len _ _ _ h)
  have hbd := hb s us I.kIn (by rw [List.append_nil]; exact hl)
  rw [List.append_nil] at hbd
  refine wpAny_call (codeAny_mono (F.run X.A X.stack s H ⟨us, []⟩ us vs Qv hr hgd I.env0 hbd r h) fun res s' hq => ?_)
  match res, hq with
  | .ok (.ret u), hq => exact I.after hq
theorem we_call {x : Str} {p : Pos} {e : Expr} {es : List Expr} (G : FnG X.prog X.w X.K X.mg X.base k f fd ps (spOf X.K φ)) (hr : Room k X.A) (hgd : X.A.guards = some []) (hm : X.mg x = some (.ref f)) (hk : PySem.W.keepIn X.K (.ref f) = true) (hb : Binds X.K fd ps []) (hg : Gl X x)
    (h : WA X B ds ms (e :: es) fun dl m => CallF φ dl m Q) (hdb : (x == ("__debug__" : Str)) = false := by decide) (he : starEach (e :: es) X.env = (false, eval e X.env) :: starEach es X.env := by rfl) (hpl : (backTo pos (starEach es X.env)).any (·.1) = false := by rfl) :
    WE X B ds ms (.Call (.Name x p) (e :: es) [] pos) Q := .mk fun σ H θ S L pins s I =>
  wpAny_Call_Name_kw (ld_glob I hg hm (PySem.W.callWith_K (h₀ := X.base) I.ok.mod.kin hk (thn (h σ H θ S L pos pins s I) fun us s1 ⟨vs, H1, I1, r, dl, m, more, r1, im1, S1, q⟩ =>
    ⟨I1.kIn, runG G hr hgd hb I1 r ((q.sp (E := E0) S1 r1).mono fun v H2 z => z.trans im1)⟩) he hpl) hdb)
theorem we_call0 {x : Str} {p : Pos} (G : FnG X.prog X.w X.K X.mg X.base k f fd ps (spOf X.K φ)) (hr : Room k X.A) (hgd : X.A.guards = some []) (hm : X.mg x = some (.ref f)) (hk : PySem.W.keepIn X.K (.ref f) = true) (hb : Binds X.K fd ps []) (hg : Gl X x)
    (h : CallF φ [] ms Q) (hdb : (x == ("__debug__" : Str)) = false := by decide) : WE X B ds ms (.Call (.Name x p) [] [] pos) Q := .mk fun σ H θ S L pins s I =>
  wpAny_Call_Name_kw (ld_glob I hg hm (PySem.W.callWith_K0 I.kIn hk (runG (us := []) G hr hgd hb I .nil (h.sp (E := E0) S mk_nil))) hdb)
/-- o.m(e, ..) -/
theorem we_meth {o : Expr} {m : Str} {apos : Pos} {e : Expr} {es : List Expr} {pl : Sem Bool} (c : Cls X.K C) (hm : Meth X.K C m f) (G : FnG X.prog X.w X.K X.mg X.base k f fd ps (spOf X.K φ)) (hr : Room k X.A) (hgd : X.A.guards = some []) (hb : Binds X.K fd ps [])
    (h : WE X B ds ms o fun d m1 => ∃ j fs, d = .obj j ∧ m1[j]? = some (.ins C fs) ∧ fs.lookup m = none ∧ WA X B ds m1 (e :: es) fun dl m2 => CallF φ (d :: dl) m2 Q)
    (hst : starEach (e :: es) X.env = (false, eval e X.env) :: starEach es X.env := by rfl) (hpl : (backTo pos (starEach es X.env)).any (·.1) = false := by rfl)
    (ht : eval (.Call (.Attribute o m apos) (e :: es) [] pos) X.env = (do
      let ov ← eval o X.env
      standAt apos.atName
      let (f, first) ← holding [ov] (getMethod ov m pl)
      callWith pos f first (backTo pos (starEach (e :: es) X.env)) (backToKw pos (keywordEach [] X.env))) := by rfl) :
    WE X B ds ms (.Call (.Attribute o m apos) (e :: es) [] pos) Q := .mk fun σ H θ S L pins s I => by
  refine PySem.W.methodCall_KW (pl := pl) (thn (h σ H θ S L pins s I) fun u s1 ⟨v, H1, I1, rv, d, m1, more, r1, im1, S1, j, fs, hd, hj, hl, q⟩ => ?_) ht
  subst hd
  obtain ⟨a, e1, rfl⟩ := rep_obj r1
  obtain ⟨dx, vs, s0, rs⟩ := S1.obs j _ a hj e1
  cases rv
  refine getmeth_ok I1 s0 c hm ((rs.fld (f := m)).2 hl) (PySem.W.callWith_K (first := [.ref a]) (h₀ := X.base) I1.ok.mod.kin hm.kp (thn (q σ H1 _ S1 (L.mono (Le.app _ _) im1) pos pins s1 I1) fun us s2 ⟨ws, H2, I2, r, dl, m2, more2, r2, im2, S2, q2⟩ => ⟨I2.kIn, ?_⟩) hst hpl)
  exact runG (us := .ref a :: us) (vs := .ref a :: ws) G hr hgd hb I2 (.cons rfl r) ((q2.sp (E := E0) S2 (mk_cons (mk_obj (Le.app _ _ _ _ e1)) r2)).mono fun v H3 z => (z.trans im2).trans im1)
theorem we_meth0 {o : Expr} {m : Str} {apos : Pos} {pl : Sem Bool} (c : Cls X.K C) (hm : Meth X.K C m f) (G : FnG X.prog X.w X.K X.mg X.base k f fd ps (spOf X.K φ)) (hr : Room k X.A) (hgd : X.A.guards = some []) (hb : Binds X.K fd ps [])
    (h : WE X B ds ms o fun d m1 => ∃ j fs, d = .obj j ∧ m1[j]? = some (.ins C fs) ∧ fs.lookup m = none ∧ CallF φ [d] m1 Q)
    (ht : eval (.Call (.Attribute o m apos) [] [] pos) X.env = (do
      let ov ← eval o X.env
      standAt apos.atName
      let (f, first) ← holding [ov] (getMethod ov m pl)
      callWith pos f first (backTo pos (starEach [] X.env)) (backToKw pos (keywordEach [] X.env))) := by rfl) :
    WE X B ds ms (.Call (.Attribute o m apos) [] [] pos) Q := .mk fun σ H θ S L pins s I => by
  refine PySem.W.methodCall_KW (pl := pl) (thn (h σ H θ S L pins s I) fun u s1 ⟨v, H1, I1, rv, d, m1, more, r1, im1, S1, j, fs, hd, hj, hl, q⟩ => ?_) ht
  subst hd
  obtain ⟨a, e1, rfl⟩ := rep_obj r1
  obtain ⟨dx, vs, s0, rs⟩ := S1.obs j _ a hj e1
  cases rv
  exact getmeth_ok I1 s0 c hm ((rs.fld (f := m)).2 hl) (PySem.W.callWith_K0 (first := [.ref a]) I1.kIn hm.kp (runG (us := [.ref a]) (vs := [.ref a]) G hr hgd hb I1 (.cons rfl .nil) ((q.sp (E := E0) S1 (mk_cons (mk_obj e1) mk_nil)).mono fun v H3 z => z.trans im1)))
theorem guards_make {A : Around} {us : List Value} (h : A.guards = some []) : (A.under (.builtin "type.__call__" ⟨.ref C :: us, []⟩)).guards = some [] := by
  simp [Around.under, pushGuards, h, Code.guards, Code.isGuard, guardIds]
/-- C(e, ..) -/
theorem we_make {x : Str} {p : Pos} {e : Expr} {es : List Expr} (M : Mk X.K C f) (G : FnG X.prog X.w X.K X.mg X.base k f fd ps (spOf X.K φ)) (hr : Room (k + 1) X.A) (hgd : X.A.guards = some []) (hm : X.mg x = some (.ref C)) (hb : Binds X.K fd ps []) (hg : Gl X x)
    (h : WA X B ds ms (e :: es) fun dl m => CallF φ (.obj m.length :: dl) (m ++ [.ins C []]) fun d m' => d = .non ∧ Q (.obj m.length) m')
    (hdb : (x == ("__debug__" : Str)) = false := by decide) (he : starEach (e :: es) X.env = (false, eval e X.env) :: starEach es X.env := by rfl) (hpl : (backTo pos (starEach es X.env)).any (·.1) = false := by rfl) :
    WE X B ds ms (.Call (.Name x p) (e :: es) [] pos) Q := .mk fun σ H0 θ S L pins s0 I0 => by
  refine wpAny_Call_Name_kw (ld_glob I0 hg hm (PySem.W.callWith_K (h₀ := X.base) I0.ok.mod.kin M.kp (thn (h σ H0 θ S L pos pins s0 I0) fun us s ⟨vs, H, I, r, dl, m, more, r1, im1, S1, q⟩ => ⟨I.kIn, ?_⟩) he hpl) hdb)
  -- the new instance
  have hd0 : H s.heap.objs.size = none := I.hok.fresh (Nat.le_refl _)
  have hy0 : H (s.heap.objs.size + 1) = none := I.hok.fresh (Nat.le_succ _)
  have S2 : Sat X.K B (θ ++ more) m (upd H s.heap.objs.size (.own (s.heap.objs.size + 1))) := S1.fresh hd0
  have hy2 : upd H s.heap.objs.size (.own (s.heap.objs.size + 1)) (s.heap.objs.size + 1) = none := by rw [upd_ne (Nat.succ_ne_self _)]; exact hy0
  have S3 := S2.alloc (o := .ins C s.heap.objs.size []) (ob := .ins C []) hy2 ⟨s.heap.objs.size, [], upd_same, rfl⟩
  have im3 : ImmP H (upd (upd H s.heap.objs.size (.own (s.heap.objs.size + 1))) (s.heap.objs.size + 1) (.ins C s.heap.objs.size [])) := (ImmP.new hd0).trans (ImmP.new hy2)
  have I2 := Inv.made (C := C) I
  have hsp := q.sp (E := E0) S3 (mk_cons (mk_obj (a := s.heap.objs.size + 1) (by rw [← S1.len]; simp)) (Reps.mono (Le.app _ _) im3 _ _ r1))
  have r2 : Vals (V.ref (s.heap.objs.size + 1) :: vs) (Value.ref (s.heap.objs.size + 1) :: us) := .cons rfl r
  have hl : (Value.ref (s.heap.objs.size + 1) :: us).length = ps.length := r2.length.symm.trans (G.len _ _ _ hsp)
  have hbd := hb _ (Value.ref (s.heap.objs.size + 1) :: us) I2.kIn (by rw [List.append_nil]; exact hl)
  rw [List.append_nil] at hbd
  refine wpAny_call (make_map (f := f) I.kIn M.makes M.init (beq_iff_eq.mp M.fn) (codeAny_mono (G.run _ X.stack _ _ ⟨Value.ref (s.heap.objs.size + 1) :: us, []⟩ _ _ _ (hr.make C us []) (guards_make hgd) (I2.env0.make C us []) hbd r2 hsp) fun res s' hq => ?_))
  match res, hq with
  | .ok (.ret u), hq =>
    obtain ⟨v, H', I3, rv, d, m', more2, r, im4, S4, rfl, q4⟩ := I2.after hq
    cases rep_non r
    refine ⟨rv, V.ref (s.heap.objs.size + 1), H', I3, rfl, .obj m.length, m', more ++ [s.heap.objs.size + 1] ++ more2, ?_, (im1.trans im3).trans im4, ?_, q4⟩
    · rw [← List.append_assoc, ← List.append_assoc]
      exact mk_obj (by rw [← S1.len]; simp)
    · rw [← List.append_assoc, ← List.append_assoc]; exact S4
end

/-! ## calls with nothing of the store -/
mutual
def D.im : D → Bool
  | .tup ds => imAll ds
  | .rol ds => imAll ds
  | .rod _ ds => imAll ds
  | .obj _ => false
  | _ => true
def imAll : List D → Bool
  | [] => true
  | d :: ds => D.im d && imAll ds
end
mutual
theorem ren_im (f : Nat → Nat) : ∀ (d : D), d.im = true → d.ren f = d
  | .non, _ => by unfold D.ren; rfl
  | .bl _, _ => by unfold D.ren; rfl
  | .int _, _ => by unfold D.ren; rfl
  | .str _, _ => by unfold D.ren; rfl
  | .ref _, _ => by unfold D.ren; rfl
  | .ty _, _ => by unfold D.ren; rfl
  | .obj k, h => by simp [D.im] at h
  | .tup ds, h => by unfold D.ren; rw [renAll_im f ds (by simpa [D.im] using h)]
  | .rol ds, h => by unfold D.ren; rw [renAll_im f ds (by simpa [D.im] using h)]
  | .rod ks ds, h => by unfold D.ren; rw [renAll_im f ds (by simpa [D.im] using h)]
theorem renAll_im (f : Nat → Nat) : ∀ (ds : List D), imAll ds = true → renAll f ds = ds
  | [], _ => by unfold renAll; rfl
  | d :: ds, h => by
    have h' : d.im = true ∧ imAll ds = true := by simpa [imAll] using h
    unfold renAll; rw [ren_im f d h'.1, renAll_im f ds h'.2]
end
theorem Fr.none {ms : List Ob} {dl : List D} (h : imAll dl = true) : Fr ms dl [] [] dl := ⟨List.nodup_nil, rfl, fun j k e => by simp at e, (renAll_im _ _ h).symm⟩
/-- values in, a value out -/
theorem callF_pure {φ : VSp} {dl : List D} {ms : List Ob} {Q : D → List Ob → Prop} (h : imAll dl = true) (q : φ dl [] fun d ml => ml = [] ∧ d.im = true ∧ Q d ms) (mono : ∀ R R' : D → List Ob → Prop, (∀ d m, R d m → R' d m) → φ dl [] R → φ dl [] R') : CallF φ dl ms Q :=
  ⟨[], [], dl, Fr.none h, mono _ _ (fun d m z _ => by
    obtain ⟨rfl, i, q⟩ := z
    rw [ren_im _ _ i]
    show Q d (ms ++ [])
    rw [List.append_nil]; exact q) q⟩
end VL

namespace VL
open PySem PySem.Spec PyProof.Rows L2

/-! ## iterators that give new tuples -/
def ItW (n : Nat) (G : Hp → Prop) (Ys : Nat → Hp → List V → Prop) : It :=
  ⟨fun i H => i < n ∧ G H, fun i H v H' => ∃ T vs, v = .ref T ∧ H T = none ∧ H' = upd H T (.tup vs) ∧ Ys i H vs, fun i H => i = n ∧ G H⟩
theorem walk_W {n : Nat} {G : Hp → Prop} {Ys : Nat → Hp → List V → Prop} : Walk (ItW n G Ys) n G fun i H v H' => ∃ T vs, v = .ref T ∧ H T = none ∧ H' = upd H T (.tup vs) ∧ Ys i H vs :=
  ⟨fun i H hi g => ⟨hi, g⟩, fun H g => ⟨rfl, g⟩, fun i H x H' _ _ y => y⟩
theorem turn_W {P : Program} {w : World} {K : PySem.W.Frag} {elts : List Expr} {kk : Nat} {tpos : Pos} {I : Addr} {fpO : List Addr} {n : Nat} {G : Hp → Prop} {Ys : Nat → Hp → List V → Prop} {tn : Nat → Heap → Prop}
    (mem : I ∈ fpO) (obj : ∀ i h, tn i h → ∀ b ∈ fpO, ∃ o, h.get? b = some o ∧ ∀ v, o.data ≠ .cell v) (keep : ∀ i h h', tn i h → (∀ b ∈ fpO, ∀ o, h.get? b = some o → h'.get? b = some o) → tn i h')
    (self : ∀ (A : Around) (i : Nat) (s : Shared) (Q : Value → Shared → Prop) (E : Value → Shared → Prop), tn i s.heap → Q (.ref I) s → wpAny (model P w) A (pyIter (.ref I)) Q E s)
    (at_ : ∀ (X : Cx) (pins : List (Addr × Obj)) (σ : St) (H : Hp) (s : Shared), X.prog = P → X.w = w → X.K = K → X.A.handled = none → Inv X pins σ H s → (∀ b ∈ fpO, FpOk X pins H b) → G H →
      ∃ fp wr Pt Si Mid, WalksT P w X.A I fp wr n Pt Si Mid ∧ (∀ b ∈ wr, b ∈ fpO) ∧ (∀ i, tn i s.heap → Si i s.heap) ∧ (∀ i h, Si i h → tn i h) ∧ (∀ i vals, Pt i vals → ∃ vs, Vals vs vals.toList ∧ vs.length ≤ 10 ∧ Ys i H vs)) :
    Turn P w K (.Tuple elts kk tpos) (ItW n G Ys) fpO I tn where
  mem := mem
  obj := obj
  keep := keep
  item := by
    intro X hP hw hK hc i pins s σ H E J hf st hg
    obtain ⟨fp, wr, Pt, Si, Mid, W, hwr, h1, h2, h3⟩ := at_ X pins σ H s hP hw hK (J.ok.hd hc) J hf hg.2
    subst hP hw hK
    refine W.item i s _ _ hg.1 (h1 i st) fun T vals h' tk hv hT hTup hmid hk => ?_
    refine ⟨.ref T, rfl, W.go elts kk tpos i T { s with heap := h', toks := tk } _ _ hmid fun h'' hst hk2 => ?_⟩
    obtain ⟨vs, rv, hl, hy⟩ := h3 i vals hv
    have hTw : T ∉ wr := W.apart i T h' hmid
    obtain ⟨ob, e1, e2, m, e3⟩ := hTup
    have hT2 : h''.get? T = some ob := hk2 T ob hTw e1
    have new : ObjOk X.prog X.w (upd H T (.tup vs)) h'' T (.tup vs) := ⟨Nat.le_trans hl (by decide), vals.toList, rv, ob, hT2, e2, m, by simpa using e3⟩
    have I1 : Inv X pins σ (upd H T (.tup vs)) { s with heap := h'', toks := tk } := J.turnedNew (t' := tk) (ch := wr) (fun c o hb q => hk2 c o hb (hk c o hb q)) (fun b hb => hf b (hwr b hb)) hT new
    refine ⟨.ref T, _, I1, rfl, ⟨T, vs, rfl, J.hok.fresh hT, rfl, hy⟩, h2 _ _ hst, fun b hb => ?_⟩
    obtain ⟨o, e, _⟩ := obj i _ st b hb
    rw [upd_ne (Nat.ne_of_lt (Nat.lt_of_lt_of_le (Heap.lt_size e) hT))]
    exact (hf b hb).1
  done := by
    intro X hP hw hK hc i pins s σ H E J hf st hg
    obtain ⟨fp, wr, Pt, Si, Mid, W, hwr, h1, h2, h3⟩ := at_ X pins σ H s hP hw hK (J.ok.hd hc) J hf hg.2
    subst hP hw hK
    have e : i = n := hg.1
    subst e
    exact W.done s _ _ (h1 _ st) fun h' tk hk => ⟨rfl, J.turnedL (t' := tk) (ch := wr) (fun c o hb q => hk c o hb q) fun b hb => hf b (hwr b hb)⟩
  self := self

/-! ## what one draws from -/
def Src (P : Program) (w : World) (K : PySem.W.Frag) (u : Value) (n : Nat) (G : Hp → Prop) (Y : Nat → Hp → V → Prop) (o : Obj) (Si : Addr → Nat → Heap → Prop) : Prop :=
  (∀ it h, h.get? it = some o → Si it 0 h) ∧ (∀ it i h, Si it i h → ∃ ob, h.get? it = some ob ∧ ∀ v, ob.data ≠ .cell v) ∧
  (∀ it i h h', Si it i h → (∀ ob, h.get? it = some ob → h'.get? it = some ob) → Si it i h') ∧
  ∀ (X : Cx) (pins : List (Addr × Obj)) (σ : St) (H : Hp) (s : Shared), X.prog = P → X.w = w → X.K = K → Inv X pins σ H s → G H →
    ∃ Ex ext Pv, Begins u o Ex ∧ Ex s.heap ∧ (∀ b ∈ ext, b < s.heap.objs.size ∧ ¬ FpOk X pins H b) ∧
      (∀ (A : Around) (it : Addr), A.handled = none → it ∉ ext → Draws P w A it (it :: ext) n Pv fun i h => Si it i h ∧ Ex h) ∧ ∀ i v, Pv i v → ∃ x, RelV x v ∧ Y i H x
section
variable {P : Program} {w : World} {K : PySem.W.Frag}
theorem src_text (x : Str) (t : Tok) : Src P w K (.str x t) x.cps.size (fun _ => True) (fun i _ v => ∃ c, x.cps[i]? = some c ∧ v = .str ⟨#[c]⟩) { cls := .type (strIterType x), data := .fields #[.str x t, .int 0 0] } (fun it i h => h.IsStrIter it (strIterType x) x t i) := by
  refine ⟨fun it h e => ⟨_, e, rfl, rfl⟩, fun it i h ⟨ob, e, c, d⟩ => ⟨ob, e, fun v z => by rw [d] at z; cases z⟩, fun it i h h' ⟨ob, e, c⟩ k => ⟨ob, k ob e, c⟩, fun X pins σ H s _ _ _ I _ => ?_⟩
  refine ⟨fun _ => True, [], fun i v => ∃ c u, x.cps[i]? = some c ∧ v = .str ⟨#[c]⟩ u, begins_text x t, trivial, fun b hb => (by cases hb), fun A it hh _ => ?_, fun i v ⟨c, u, e, h⟩ => ⟨.str ⟨#[c]⟩, ⟨u, h⟩, c, e, rfl⟩⟩
  have D := Draws.text (prog := P) (w := w) (A := A) hh it x t
  exact ⟨fun i h st => D.live i h st.1, fun i h h' st k => ⟨D.frame i h h' st.1 k, trivial⟩, fun i s Q E hi st q => D.item i s Q E hi st.1 fun y h' tk p st' sb => q y h' tk p ⟨st', trivial⟩ sb, fun s Q E st q => D.done s Q E st.1 q⟩
theorem no_fp {X : Cx} {pins : List (Addr × Obj)} {σ : St} {H : Hp} {s : Shared} {a : Addr} (I : Inv X pins σ H s) (h : (∃ o, H a = some o) ∨ ∃ o, X.K.lookup a = some o) : ¬ FpOk X pins H a := fun f => by
  obtain ⟨f0, _, _, f3, _⟩ := f
  rcases h with ⟨o, e⟩ | ⟨o, e⟩
  · rw [e] at f0; cases f0
  · have eb := I.ok.mod.kin a o e
    rcases f3 with z | z
    · exact I.ok.noex a o eb z
    · have := Heap.lt_size eb
      exact absurd (Nat.lt_of_lt_of_le this (Nat.le_trans I.ok.bsz z)) (Nat.lt_irrefl _)
theorem src_tup (a : Addr) (vs : List V) : Src P w K (.ref a) vs.length (fun H => SqT K H a vs) (fun i _ v => vs[i]? = some v) { cls := .type "tuple_iterator", data := .fields #[.ref a, .int 0 0] } (fun it i h => h.IsTupleIter it a i) := by
  refine ⟨fun it h e => ⟨_, e, rfl, rfl⟩, fun it i h ⟨ob, e, c, d⟩ => ⟨ob, e, fun v z => by rw [d] at z; cases z⟩, fun it i h h' ⟨ob, e, c⟩ k => ⟨ob, k ob e, c⟩, fun X pins σ H s _ _ hK I g => ?_⟩
  subst hK
  obtain ⟨its, rv, p, _⟩ := I.tuple g
  have hl := rv.length
  have hp : s.heap.IsTuple a its.toArray := p
  refine ⟨fun h => h.IsTuple a its.toArray, [a], fun i v => its.toArray[i]? = some v, begins_tuple a its.toArray, hp, fun b hb => ?_, fun A it hh hn => ?_, fun i v e => ?_⟩
  · have : b = a := by simpa using hb
    subst this
    refine ⟨p.lt, no_fp I ?_⟩
    rcases g with (g | ⟨o, g⟩) | ⟨o, _, _, g, _⟩
    · exact .inl ⟨_, g⟩
    · exact .inl ⟨_, g⟩
    · exact .inr ⟨_, g⟩
  · have D := Draws.tuple (prog := P) (w := w) (A := A) hh it a (fun e => hn (by simp [e])) its.toArray
    rw [show vs.length = its.toArray.size by simp [hl]]
    exact D
  · have hi : i < its.length := by
      have := (Array.getElem?_eq_some_iff.mp e).1
      simpa using this
    have hi2 : i < vs.length := by rw [hl]; exact hi
    obtain ⟨u, e2, r⟩ := rv.get (List.getElem?_eq_getElem hi2)
    refine ⟨vs[i], ?_, List.getElem?_eq_getElem hi2⟩
    have e3 : its[i]? = some v := by simpa using e
    rw [e2] at e3; cases e3
    exact r
theorem src_list (a : Addr) (n : Nat) : Src P w K (.ref a) n (fun H => ∃ ws, SqL K H a ws ∧ ws.length = n) (fun i H v => ∀ ws, H a = some (.lst ws) → ws[i]? = some v) { cls := .type "list_iterator", data := .fields #[.ref a, .int 0 0] } (fun it i h => h.IsListIter it a i) := by
  refine ⟨fun it h e => ⟨_, e, rfl, rfl⟩, fun it i h ⟨ob, e, c, d⟩ => ⟨ob, e, fun v z => by rw [d] at z; cases z⟩, fun it i h h' ⟨ob, e, c⟩ k => ⟨ob, k ob e, c⟩, fun X pins σ H s _ _ hK I g => ?_⟩
  subst hK
  obtain ⟨vs, g, rfl⟩ := g
  obtain ⟨its, rv, p, _⟩ := I.list g
  have hl := rv.length
  refine ⟨fun h => h.IsList a its.toArray, [a], fun i v => its.toArray[i]? = some v, begins_list a its.toArray, p.isList, fun b hb => ?_, fun A it hh hn => ?_, fun i v e => ?_⟩
  · have : b = a := by simpa using hb
    subst this
    refine ⟨p.lt, no_fp I ?_⟩
    rcases g with (g | ⟨o, g⟩) | ⟨o, _, _, g, _⟩
    · exact .inl ⟨_, g⟩
    · exact .inl ⟨_, g⟩
    · exact .inr ⟨_, g⟩
  · have D := Draws.list (prog := P) (w := w) (A := A) hh it a (fun e => hn (by simp [e])) its.toArray
    rw [show vs.length = its.toArray.size by simp [hl]]
    exact D
  · have hi : i < its.length := by
      have := (Array.getElem?_eq_some_iff.mp e).1
      simpa using this
    have hi2 : i < vs.length := by rw [hl]; exact hi
    obtain ⟨u, e2, r⟩ := rv.get (List.getElem?_eq_getElem hi2)
    refine ⟨vs[i], ?_, fun ws h => ?_⟩
    · have e3 : its[i]? = some v := by simpa using e
      rw [e2] at e3; cases e3
      exact r
    · rw [I.list_inj (SqL.of h) g]
      exact List.getElem?_eq_getElem hi2
end

/-! ### zip of two -/
theorem pie_zip {X : Cx} {pins : List (Addr × Obj)} {σ : St} {H : Hp} {s : Shared} {elts : List Expr} {kk : Nat} {tpos : Pos} {u1 u2 : Value} {n1 n2 : Nat} {G1 G2 : Hp → Prop} {Y1 Y2 : Nat → Hp → V → Prop} {o1 o2 : Obj} {S1 S2 : Addr → Nat → Heap → Prop} {R : It → Hp → Prop} {E : Value → Shared → Prop}
    (A1 : Src X.prog X.w X.K u1 n1 G1 Y1 o1 S1) (A2 : Src X.prog X.w X.K u2 n2 G2 Y2 o2 S2) (I : Inv X pins σ H s) (g1 : G1 H) (g2 : G2 H)
    (q : R (ItW (min n1 n2) (fun H => G1 H ∧ G2 H) fun i H vs => ∃ x y, vs = [x, y] ∧ Y1 i H x ∧ Y2 i H y) H) :
    wpAny (model X.prog X.w) X.A (call (.type "zip") [u1, u2]) (fun v s1 => wpAny (model X.prog X.w) X.A (pyIter v) (PIE X pins σ (.Tuple elts kk tpos) R) E s1) E s := by
  obtain ⟨a0, a1, a2, a3⟩ := A1
  obtain ⟨b0, b1, b2, b3⟩ := A2
  obtain ⟨Ex1, ext1, P1, B1, e1, f1, D1, _⟩ := a3 X pins σ H s rfl rfl rfl I g1
  obtain ⟨Ex2, ext2, P2, B2, e2, f2, D2, _⟩ := b3 X pins σ H s rfl rfl rfl I g2
  generalize hN : s.heap.objs.size = N at *
  refine zip_begins2 B1 B2 e1 e2 fun h' hz hTI hTO h1 h2 hsz hk => wpAny_pyIter_zip hz ?_
  rw [hN] at hz hTI hTO h1 h2 hsz ⊢
  have I2 : Inv X pins σ H { s with heap := h' } := I.kept (t' := s.toks) hk
  refine ⟨N + 4, [N + 4, N + 2, N + 3, N, N + 1], fun i h => IsZip h (N + 4) (N + 2) (N + 3) .none ∧ IsTupOf2 h (N + 2) (.ref N) (.ref (N + 1)) ∧ (∃ x y, IsTupOf2 h (N + 3) x y) ∧ S1 N i h ∧ S2 (N + 1) i h, _, H, rfl, I2, ?_, ⟨hz, hTI, ⟨_, _, hTO⟩, a0 _ _ h1, b0 _ _ h2⟩, fun c hcm => ?_, q⟩
  · refine turn_W (by simp) (fun i h st b hb => ?_) (fun i h h' st k => ?_) (fun A i s Q E st h => wpAny_pyIter_zip st.1 h) (fun X' pins' σ' H' s' hP hw hK hh J hf g => ?_)
    · obtain ⟨z1, z2, ⟨x, y, z3⟩, z4, z5⟩ := st
      have e' : b = N + 4 ∨ b = N + 2 ∨ b = N + 3 ∨ b = N ∨ b = N + 1 := by simpa using hb
      rcases e' with r | r | r | r | r
      · rw [r]; exact ⟨_, z1, fun v q => nomatch q⟩
      · rw [r]; exact ⟨_, z2, fun v q => nomatch q⟩
      · rw [r]; exact ⟨_, z3, fun v q => nomatch q⟩
      · rw [r]; exact a1 _ _ _ z4
      · rw [r]; exact b1 _ _ _ z5
    · obtain ⟨z1, z2, ⟨x, y, z3⟩, z4, z5⟩ := st
      exact ⟨k _ (by simp) _ z1, k _ (by simp) _ z2, ⟨x, y, k _ (by simp) _ z3⟩, a2 _ _ _ _ z4 fun ob r => k _ (by simp) ob r, b2 _ _ _ _ z5 fun ob r => k _ (by simp) ob r⟩
    · obtain ⟨Ex1, ext1, P1, _, x1, f1, D1, r1⟩ := a3 X' pins' σ' H' s' hP hw hK J g.1
      obtain ⟨Ex2, ext2, P2, _, x2, f2, D2, r2⟩ := b3 X' pins' σ' H' s' hP hw hK J g.2
      have n1 : ∀ b ∈ [N + 4, N + 2, N + 3, N, N + 1], b ∉ ext1 := fun b hb z => (f1 b z).2 (hf b hb)
      have n2 : ∀ b ∈ [N + 4, N + 2, N + 3, N, N + 1], b ∉ ext2 := fun b hb z => (f2 b z).2 (hf b hb)
      have ne : ∀ i j : Nat, i ≠ j → (N + i : Nat) ≠ N + j := fun i j h e => h (by omega)
      have SP : ZipSep2 (N + 4) (N + 2) (N + 3) N (N + 1) (N :: ext1) ((N + 1) :: ext2) :=
        { TIz := ne 2 4 (by decide), TOz := ne 3 4 (by decide), TITO := ne 2 3 (by decide), TIi1 := ne 2 0 (by decide), mem1 := List.mem_cons_self, mem2 := List.mem_cons_self, TIi2 := ne 2 1 (by decide)
          zf1 := fun h => (List.mem_cons.mp h).elim (ne 4 0 (by decide)) (n1 _ (by simp)), Tf1 := fun h => (List.mem_cons.mp h).elim (ne 3 0 (by decide)) (n1 _ (by simp))
          zf2 := fun h => (List.mem_cons.mp h).elim (ne 4 1 (by decide)) (n2 _ (by simp)), Tf2 := fun h => (List.mem_cons.mp h).elim (ne 3 1 (by decide)) (n2 _ (by simp))
          sep1_2 := fun h => (List.mem_cons.mp h).elim (ne 0 1 (by decide)) (n2 _ (by simp)), sep2_1 := fun h => (List.mem_cons.mp h).elim (ne 1 0 (by decide)) (n1 _ (by simp)) }
      refine ⟨_, _, _, _, _, WalksT.zipD2 SP (D1 X'.A.in1 N hh (n1 _ (by simp))) (D2 X'.A.in1 (N + 1) hh (n2 _ (by simp))), fun b hb => ?_, fun i st => ⟨st.1, st.2.1, st.2.2.1, ⟨st.2.2.2.1, x1⟩, st.2.2.2.2, x2⟩, fun i h st => ⟨st.1, st.2.1, st.2.2.1, st.2.2.2.1.1, st.2.2.2.2.1⟩, fun i vals hv => ?_⟩
      · have e' : b = N + 4 ∨ b = N + 3 ∨ b = N ∨ b = N + 1 := by simpa using hb
        rcases e' with r | r | r | r <;> simp [r]
      · obtain ⟨y1, y2, p1, p2, rfl⟩ := hv
        obtain ⟨v1, q1, q1'⟩ := r1 i y1 p1
        obtain ⟨v2, q2, q2'⟩ := r2 i y2 p2
        exact ⟨[v1, v2], .cons q1 (.cons q2 .nil), by simp, v1, v2, rfl, q1', q2'⟩
  · have hle : s.heap.objs.size ≤ c := by
      rw [hN]
      have e' : c = N + 4 ∨ c = N + 2 ∨ c = N + 3 ∨ c = N ∨ c = N + 1 := by simpa using hcm
      rcases e' with r | r | r | r | r <;> rw [r]
      · exact Nat.le_add_right _ _
      · exact Nat.le_add_right _ _
      · exact Nat.le_add_right _ _
      · exact Nat.le_refl _
      · exact Nat.le_add_right _ _
    exact I.fpOk hle (I.hok.fresh hle)

/-! ### enumerate -/
theorem enum_new1 {v : Value} {o : Obj} {Hx : Heap → Prop} (Bg : Begins v o Hx) :
    Meets (Builtin.«enumerate.__new__» ⟨[.type "enumerate", v], []⟩) (fun _ R s => Hx s.heap ∧
      R (.ok (.ret (.ref (s.heap.push o).objs.size))) { s with heap := (s.heap.push o).push { cls := .type "enumerate", data := .fields #[.none, .bool false, .ref s.heap.objs.size, rawInt 0, .none, .none] } }) :=
  .of_wp fun prog w A R s h => by
    obtain ⟨hp, g, d, tk, os⟩ := s
    obtain ⟨h1, h⟩ := h
    have hs := sub_enumerate
    have qi : ∀ {A' : Around} {E : Value → Shared → Prop} {Q : Value → Shared → Prop}, Q (.ref hp.objs.size) ⟨hp.push o, g, d, tk, os⟩ → wpAny (model prog w) A' (pyIter v) Q E ⟨hp, g, d, tk, os⟩ :=
      fun q => Bg.iter prog w _ _ ⟨hp, g, d, tk, os⟩ _ h1 q
    wp_walk using qi
    refine wpAny_stack_any fun sk => wpAny_pure ?_
    split
    · rename_i c _ _ _ _ _
      cases (c == Value.type "enumerate") <;> (wp_walk using qi; exact ⟨_, rfl, h⟩)
    · wp_walk using qi
      exact ⟨_, rfl, h⟩
theorem enum_call1 {prog : Program} {w : World} {A : Around} {E : Value → Shared → Prop} {s : Shared} {v : Value} {o : Obj} {Hx : Heap → Prop} {Q : Value → Shared → Prop} (Bg : Begins v o Hx) (h1 : Hx s.heap)
    (h : ∀ h', IsEnum h' (s.heap.objs.size + 1) s.heap.objs.size 0 .none → h'.get? s.heap.objs.size = some o → (∀ b ob, s.heap.get? b = some ob → h'.get? b = some ob) → Q (.ref (s.heap.objs.size + 1)) { s with heap := h' }) :
    wpAny (model prog w) A (call (.type "enumerate") [v]) Q E s := by
  refine callType_new F.called_enumerate (by decide) (F.typeCall_enumerate_1 _) (F.newCall_enumerate_1 _) (fun obj => F.args_object_init_2 obj _) F.entry_enumerate_new (enum_new1 Bg) ⟨h1, ?_⟩
  have hz : (s.heap.push o).objs.size = s.heap.objs.size + 1 := Heap.size_push ..
  show _ ∧ _
  rw [hz]
  have he : IsEnum ((s.heap.push o).push { cls := .type "enumerate", data := .fields #[.none, .bool false, .ref s.heap.objs.size, rawInt 0, .none, .none] }) (s.heap.objs.size + 1) s.heap.objs.size 0 .none := by
    have e := Heap.get?_push_size (s.heap.push o) (o := { cls := .type "enumerate", data := .fields #[.none, .bool false, .ref s.heap.objs.size, rawInt 0, .none, .none] }) rfl
    rw [hz] at e; exact e
  exact ⟨⟨_, he, rfl⟩, h _ he (Heap.get?_push_of_some _ (Heap.get?_push_size _ Bg.free)) fun b ob x => Heap.get?_push_of_some _ (Heap.get?_push_of_some _ x)⟩
theorem pie_enum {X : Cx} {pins : List (Addr × Obj)} {σ : St} {H : Hp} {s : Shared} {elts : List Expr} {kk : Nat} {tpos : Pos} {u1 : Value} {n1 : Nat} {G1 : Hp → Prop} {Y1 : Nat → Hp → V → Prop} {o1 : Obj} {S1 : Addr → Nat → Heap → Prop} {R : It → Hp → Prop} {E : Value → Shared → Prop}
    (A1 : Src X.prog X.w X.K u1 n1 G1 Y1 o1 S1) (I : Inv X pins σ H s) (g1 : G1 H) (q : R (ItW n1 G1 fun i H vs => ∃ x, vs = [.int (i : Nat), x] ∧ Y1 i H x) H) :
    wpAny (model X.prog X.w) X.A (call (.type "enumerate") [u1]) (fun v s1 => wpAny (model X.prog X.w) X.A (pyIter v) (PIE X pins σ (.Tuple elts kk tpos) R) E s1) E s := by
  obtain ⟨a0, a1, a2, a3⟩ := A1
  obtain ⟨Ex1, ext1, P1, B1, e1, f1, D1, _⟩ := a3 X pins σ H s rfl rfl rfl I g1
  generalize hN : s.heap.objs.size = N at *
  refine enum_call1 B1 e1 fun h' he h1 hk => wpAny_pyIter_enum (by rw [hN] at he ⊢; exact he) ?_
  rw [hN] at he h1
  have I2 : Inv X pins σ H { s with heap := h' } := I.kept (t' := s.toks) hk
  rw [hN]
  have ne : ∀ i j : Nat, i ≠ j → (N + i : Nat) ≠ N + j := fun i j h e => h (by omega)
  refine ⟨N + 1, [N + 1, N], fun i h => (∃ old, IsEnum h (N + 1) N (0 + (i : Int)) old) ∧ S1 N i h, _, H, rfl, I2, ?_, ⟨⟨.none, (by
    have e : (0 : Int) + ((0 : Nat) : Int) = 0 := by simp
    rw [e]; exact he)⟩, a0 _ _ h1⟩, fun c hcm => ?_, q⟩
  · refine turn_W (by simp) (fun i h st b hb => ?_) (fun i h h' st k => ?_) (fun A i s Q E st h => ?_) (fun X' pins' σ' H' s' hP hw hK hh J hf g => ?_)
    · obtain ⟨⟨x, z1⟩, z4⟩ := st
      have e' : b = N + 1 ∨ b = N := by simpa using hb
      rcases e' with r | r
      · rw [r]; exact ⟨_, z1, fun v q => nomatch q⟩
      · rw [r]; exact a1 _ _ _ z4
    · obtain ⟨⟨x, z1⟩, z4⟩ := st
      exact ⟨⟨x, k _ (by simp) _ z1⟩, a2 _ _ _ _ z4 fun ob r => k _ (by simp) ob r⟩
    · obtain ⟨⟨x, z1⟩, z4⟩ := st
      exact wpAny_pyIter_enum z1 h
    · obtain ⟨Ex1, ext1, P1, _, x1, f1, D1, r1⟩ := a3 X' pins' σ' H' s' hP hw hK J g
      have n1 : ∀ b ∈ [N + 1, N], b ∉ ext1 := fun b hb z => (f1 b z).2 (hf b hb)
      refine ⟨_, _, _, _, _, WalksT.enumFrom 0 (D1 X'.A.in1 N hh (n1 _ (by simp))) (N + 1) (ne 1 0 (by decide)) (fun h => (List.mem_cons.mp h).elim (ne 1 0 (by decide)) (n1 _ (by simp))) List.mem_cons_self, fun b hb => ?_, fun i st => ⟨st.1, st.2, x1⟩, fun i h st => ⟨st.1, st.2.1⟩, fun i vals hv => ?_⟩
      · have e' : b = N + 1 ∨ b = N := by simpa using hb
        rcases e' with r | r <;> simp [r]
      · obtain ⟨t, y1, p1, rfl⟩ := hv
        obtain ⟨v1, q1, q1'⟩ := r1 i y1 p1
        refine ⟨[.int (i : Nat), v1], .cons ⟨t, ?_⟩ (.cons q1 .nil), by simp, v1, rfl, q1'⟩
        rw [Int.zero_add]
  · have hle : s.heap.objs.size ≤ c := by
      rw [hN]
      have e' : c = N + 1 ∨ c = N := by simpa using hcm
      rcases e' with r | r <;> rw [r]
      · exact Nat.le_add_right _ _
      · exact Nat.le_refl _
    exact I.fpOk hle (I.hok.fresh hle)

/-! ### by data -/
inductive SrcD (m : List Ob) : D → List D → (List Ob → Prop) → Prop where
  | text (z : Str) : SrcD m (.str z) (z.cps.toList.map fun c => .str ⟨#[c]⟩) fun _ => True
  | tup (xs : List D) : SrcD m (.tup xs) xs fun _ => True
  | list {k : Nat} {xs : List D} (h : m[k]? = some (.lst xs)) : SrcD m (.obj k) xs fun m' => m'[k]? = some (.lst xs)
theorem SrcD.src {P : Program} {w : World} {K : PySem.W.Frag} {B : Bs} {θ : List Addr} {m : List Ob} {H : Hp} {d : D} {xs : List D} {G : List Ob → Prop} {v : V} {u : Value} (h : SrcD m d xs G) (S : Sat K B θ m H) (r : Rep K θ H d v) (ru : RelV v u) :
    ∃ Gh Y o Si, Src P w K u xs.length Gh Y o Si ∧ Gh H ∧ ∀ θ' ms' H', ImmP H H' → θ'.take θ.length = θ → Sat K B θ' ms' H' → G ms' → Gh H' ∧ ∀ i x, Y i H' x → ∃ d, xs[i]? = some d ∧ Rep K θ' H' d x := by
  cases h with
  | text z =>
    cases rep_str r
    obtain ⟨t, rfl⟩ := ru
    refine ⟨_, _, _, _, by rw [List.length_map, Array.length_toList]; exact src_text z t, trivial, fun θ' ms' H' im t' S' _ => ⟨trivial, fun i x hy => ?_⟩⟩
    obtain ⟨c, hc, rfl⟩ := hy
    exact ⟨.str ⟨#[c]⟩, by rw [List.getElem?_map, Array.getElem?_toList, hc]; rfl, mk_str⟩
  | tup =>
    obtain ⟨a, vs, rfl, s, rs⟩ := rep_tup r
    cases ru
    refine ⟨_, _, _, _, by rw [← rs.length]; exact src_tup a vs, s, fun θ' ms' H' im t' S' _ => ⟨im.sqt s, fun i x hy => ?_⟩⟩
    obtain ⟨d, e, rd⟩ := rs.getV hy
    exact ⟨d, e, Rep.mono (le_of_take t') im _ _ rd⟩
  | @list k _ hk =>
    obtain ⟨a, e, rfl⟩ := rep_obj r
    cases ru
    obtain ⟨vs, s, rs⟩ := S.obs k _ a hk e
    refine ⟨_, _, _, _, src_list a xs.length, ⟨vs, SqL.of s, rs.length⟩, fun θ' ms' H' im t' S' hG => ?_⟩
    obtain ⟨ws, s2, rs2⟩ := S'.obs k _ a hG (le_of_take t' k a e)
    refine ⟨⟨ws, SqL.of s2, rs2.length⟩, fun i x hy => ?_⟩
    exact rs2.getV (hy ws s2)
section
variable {X : Cx} {B : Bs} {ds : List (Option D)} {ms : List Ob} {pos : Pos} {R : List D → (List Ob → Prop) → List Ob → Prop}
def zipD (xs ys : List D) : List D := List.zipWith (fun x y => .tup [x, y]) xs ys
theorem wi_zip {a b : Expr} {p tpos : Pos} {elts : List Expr} {kk : Nat} (hm : X.mg "zip" = none) (hg : Gl X "zip")
    (h : WA X B ds ms [a, b] fun dl m => ∃ d1 d2 xs ys G1 G2, dl = [d1, d2] ∧ SrcD m d1 xs G1 ∧ SrcD m d2 ys G2 ∧ R (zipD xs ys) (fun m' => G1 m' ∧ G2 m') m)
    (hs : starEach [a, b] X.env = (false, eval a X.env) :: starEach [b] X.env := by rfl) (hpl : (backTo pos (starEach [b] X.env)).any (·.1) = false := by rfl) :
    WI X B ds ms (.Tuple elts kk tpos) (.Call (.Name "zip" p) [a, b] [] pos) R := .mk fun σ H θ S L pins s I => by
  refine Call_ (ld_blt I hg hm PyProof.Rows.boot_zip (PyProof.Rows.callWith_type1 (thn (h σ H θ S L pos pins s I) fun us s1 ⟨vs, H1, I1, rv, dl, m, more, r, im, S1, d1, d2, xs, ys, G1, G2, ed, c1, c2, q⟩ => ?_) hs hpl))
  subst ed
  obtain ⟨v1, v2, rfl, r1, r2⟩ := reps2 r
  obtain ⟨u1, u2, rfl, q1, q2⟩ := Vals.two rv
  obtain ⟨Gh1, Y1, o1, S1', A1, g1, k1⟩ := c1.src (P := X.prog) (w := X.w) S1 r1 q1
  obtain ⟨Gh2, Y2, o2, S2', A2, g2, k2⟩ := c2.src (P := X.prog) (w := X.w) S1 r2 q2
  refine pie_zip (R := fun J H1 => ∃ items G m1 more, ImmP H H1 ∧ Sat X.K B (θ ++ more) m1 H1 ∧ R items G m1 ∧ WalkD X.K B (θ ++ more) H1 J items G) A1 A2 I1 g1 g2 ⟨zipD xs ys, _, m, more, im, S1, q, fun H => Gh1 H ∧ Gh2 H, fun i H v H' => ∃ T vs, v = .ref T ∧ H T = none ∧ H' = upd H T (.tup vs) ∧ ∃ x y, vs = [x, y] ∧ Y1 i H x ∧ Y2 i H y, ?_, fun θ' ms' H' im' t' S' hG => ⟨(k1 θ' ms' H' im' t' S' hG.1).1, (k2 θ' ms' H' im' t' S' hG.2).1⟩, fun i x H' H2 θ' ms' hi im' t' S' hG y => ?_⟩
  · have : (zipD xs ys).length = min xs.length ys.length := by unfold zipD; rw [List.length_zipWith]
    rw [this]
    exact walk_W
  · obtain ⟨T, vs, rfl, hT, rfl, x1, x2, rfl, y1, y2⟩ := y
    obtain ⟨e1, p1, w1⟩ := (k1 θ' ms' H' im' t' S' hG.1).2 i x1 y1
    obtain ⟨e2, p2, w2⟩ := (k2 θ' ms' H' im' t' S' hG.2).2 i x2 y2
    refine ⟨.tup [e1, e2], by unfold zipD; rw [List.getElem?_zipWith, p1, p2], fun b o hb => by rw [upd_ne (ne_of_none hb hT)]; exact hb, S'.fresh hT, mk_tup (SqT.of upd_same) (Reps.mono (Le.refl _) (ImmP.new hT) _ _ (mk_cons w1 (mk_cons w2 mk_nil)))⟩
def enumD (xs : List D) : List D := List.zipWith (fun (i : Nat) x => .tup [.int (i : Nat), x]) (List.range xs.length) xs
theorem wi_enum {a : Expr} {p tpos : Pos} {elts : List Expr} {kk : Nat} (hm : X.mg "enumerate" = none) (hg : Gl X "enumerate")
    (h : WE X B ds ms a fun d m => ∃ xs G, SrcD m d xs G ∧ R (enumD xs) G m)
    (hs : starEach [a] X.env = (false, eval a X.env) :: starEach [] X.env := by rfl) (hpl : (backTo pos (starEach [] X.env)).any (·.1) = false := by rfl) :
    WI X B ds ms (.Tuple elts kk tpos) (.Call (.Name "enumerate" p) [a] [] pos) R := .mk fun σ H θ S L pins s I => by
  have hA : PA X [a] (tCons (tCan X a) tNil) := pa_cons pe_can pa_nil hs
  have hq : tCons (tCan X a) tNil σ H fun vs H1 => ∃ v, vs = [v] ∧ PV X.K B θ H (fun d m => ∃ xs G, SrcD m d xs G ∧ R (enumD xs) G m) v H1 :=
    (h σ H θ S L).mono fun v H1 z => show ∃ w, [v] = [w] ∧ _ from ⟨v, rfl, z⟩
  refine Call_ (ld_blt I hg hm boot_enumerate (PyProof.Rows.callWith_type1 (thn (hA.run pos pins s σ H _ I hq) fun us s1 ⟨vs, H1, I1, rv, v1, ev, d1, m, more, r1, im, S1, xs, G1, c1, q⟩ => ?_) hs hpl))
  subst ev
  obtain ⟨u1, rfl, q1⟩ := Vals.one rv
  obtain ⟨Gh1, Y1, o1, S1', A1, g1, k1⟩ := c1.src (P := X.prog) (w := X.w) S1 r1 q1
  refine pie_enum (R := fun J H1 => ∃ items G m1 more, ImmP H H1 ∧ Sat X.K B (θ ++ more) m1 H1 ∧ R items G m1 ∧ WalkD X.K B (θ ++ more) H1 J items G) A1 I1 g1 ⟨enumD xs, _, m, more, im, S1, q, Gh1, fun i H v H' => ∃ T vs, v = .ref T ∧ H T = none ∧ H' = upd H T (.tup vs) ∧ ∃ x, vs = [.int (i : Nat), x] ∧ Y1 i H x, ?_, fun θ' ms' H' im' t' S' hG => (k1 θ' ms' H' im' t' S' hG).1, fun i x H' H2 θ' ms' hi im' t' S' hG y => ?_⟩
  · have : (enumD xs).length = xs.length := by unfold enumD; rw [List.length_zipWith, List.length_range]; omega
    rw [this]
    exact walk_W
  · obtain ⟨T, vs, rfl, hT, rfl, x1, rfl, y1⟩ := y
    obtain ⟨e1, p1, w1⟩ := (k1 θ' ms' H' im' t' S' hG).2 i x1 y1
    have hi2 : i < xs.length := (List.getElem?_eq_some_iff.mp p1).1
    refine ⟨.tup [.int (i : Nat), e1], by unfold enumD; rw [List.getElem?_zipWith, p1, List.getElem?_range hi2], fun b o hb => by rw [upd_ne (ne_of_none hb hT)]; exact hb, S'.fresh hT, mk_tup (SqT.of upd_same) (Reps.mono (Le.refl _) (ImmP.new hT) _ _ (mk_cons mk_int (mk_cons w1 mk_nil)))⟩

/-! ## data as a whole: ==, repr -/
mutual
inductive Py (ms : List Ob) : D → PyData → Prop
  | non : Py ms .non .none
  | bl (b : Bool) : Py ms (.bl b) (.bool b)
  | int (i : Int) : Py ms (.int i) (.int i)
  | str (x : Str) : Py ms (.str x) (.str x)
  | tup {ds : List D} {ps : List PyData} : PyAll ms ds ps → Py ms (.tup ds) (.tuple ps)
  | rol {ds : List D} {ps : List PyData} : PyAll ms ds ps → Py ms (.rol ds) (.list ps)
  | lst {k : Nat} {ds : List D} {ps : List PyData} : ms[k]? = some (.lst ds) → PyAll ms ds ps → Py ms (.obj k) (.list ps)
inductive PyAll (ms : List Ob) : List D → List PyData → Prop
  | nil : PyAll ms [] []
  | cons {d : D} {ds : List D} {p : PyData} {ps : List PyData} : Py ms d p → PyAll ms ds ps → PyAll ms (d :: ds) (p :: ps)
end
section
variable {K : PySem.W.Frag} {θ : List Addr} {H : Hp} {m : List Ob}
mutual
theorem Py.dp (S : Sat K B θ m H) : ∀ (p : PyData) (d : D) (v : V), Py m d p → Rep K θ H d v → Dp K H v p
  | .none, _, _, h, r => by cases h; rw [rep_non r]; exact .non
  | .bool _, _, _, h, r => by cases h; rw [rep_bl r]; exact .bl _
  | .int _, _, _, h, r => by cases h; rw [rep_int r]; exact .int _
  | .str _, _, _, h, r => by cases h; rw [rep_str r]; exact .str _
  | .tuple ps, _, _, h, r => by
    cases h with
    | tup ha =>
      obtain ⟨a, vs, rfl, s, rs⟩ := rep_tup r
      exact .tup s (PyAll.dp S ps _ vs ha rs)
  | .list ps, _, _, h, r => by
    cases h with
    | lst hk ha =>
      obtain ⟨a, e, rfl⟩ := rep_obj r
      obtain ⟨vs, s, rs⟩ := S.obs _ _ a hk e
      exact .lst (SqL.of s) (PyAll.dp S ps _ vs ha rs)
    | rol ha =>
      obtain ⟨a, vs, rfl, s, rs⟩ := rep_rol r
      exact .lst s.sq (PyAll.dp S ps _ vs ha rs)
  | .dict _, _, _, h, _ => by cases h
theorem PyAll.dp (S : Sat K B θ m H) : ∀ (ps : List PyData) (ds : List D) (vs : List V), PyAll m ds ps → Reps K θ H ds vs → DpAll K H vs ps
  | [], _, _, h, r => by cases h; rw [reps_nil r]; exact .nil
  | p :: ps, _, _, h, r => by
    cases h with
    | cons h1 h2 =>
      obtain ⟨v, vs', rfl, r1, r2⟩ := reps_cons r
      exact .cons (Py.dp S p _ v h1 r1) (PyAll.dp S ps _ vs' h2 r2)
end
end
theorem wo_eqD {Q : D → List Ob → Prop} {d e : D} {p q : PyData} (hu : X.A.units + 64 < cLine) (h1 : Py ms d p) (h2 : Py ms e q) (s1 : SeqAt.shaped p = true) (s2 : SeqAt.shaped q = true) (hq : Q (.bl (PyData.eqv p q)) ms) : WO X B ms (compareOp .Eq) d e Q :=
  WO.of (op_eqD hu) fun H θ x y S r1 r2 => ⟨p, q, Py.dp S p d x h1 r1, Py.dp S q e y h2 r2, s1, s2, pv_same S mk_bl hq⟩
theorem wo_neD {Q : D → List Ob → Prop} {d e : D} {p q : PyData} (hu : X.A.units + 64 < cLine) (h1 : Py ms d p) (h2 : Py ms e q) (s1 : SeqAt.shaped p = true) (s2 : SeqAt.shaped q = true) (hq : Q (.bl (!PyData.eqv p q)) ms) : WO X B ms (compareOp .NotEq) d e Q :=
  WO.of (op_neD hu) fun H θ x y S r1 r2 => ⟨p, q, Py.dp S p d x h1 r1, Py.dp S q e y h2 r2, s1, s2, pv_same S mk_bl hq⟩
theorem reads_str {h : Heap} {v : Value} {as : List Addr} {x : Str} (r : Reads h v (.str x) as) : ∃ t, v = .str x t := by cases r; exact ⟨_, rfl⟩
theorem call_reprD (hgd : X.A.guards = some []) (hu : X.A.units + 70 < cLine) : CallR X (.builtin "repr") (fun xs H Q => ∃ v d, xs = [v] ∧ Dp X.K H v d ∧ d.showable = true ∧ d.hasDict = false ∧ d.depth ≤ 64 ∧ d.shown.length ≤ sizeLine ∧ Q (.str d.shown) H) := by
  intro pins s σ H xs us Q I r h
  obtain ⟨v, d, rfl, hd, hs, hn, hdp, hz, q⟩ := h
  obtain ⟨u, rfl, rv⟩ := Vals.one r
  obtain ⟨as, rd⟩ := Dp.reads I d v u hd rv
  have fin : ∀ t k, EP X pins σ Q (.str d.shown t) { s with toks := k } := fun t k => ⟨.str d.shown, H, I.tok k, ⟨t, rfl⟩, q⟩
  cases hd with
  | non => cases rv; exact PySem.P.repr_of_none (fin _ _)
  | bl b => cases rv; exact PySem.P.repr_of_bool (by have := fin s.toks (s.toks + 1); rw [show (PyData.bool b).shown = (if b then "True" else "False" : Str) by simp only [PyData.shown]] at this; exact this)
  | int i =>
    obtain ⟨t, rfl⟩ := rv
    exact PySem.P.repr_of_int (by simpa [PyData.showable] using hs) (by have := fin s.toks (s.toks + 1); simp only [PyData.shown] at this; exact this)
  | str x =>
    obtain ⟨t, rfl⟩ := rv
    exact PySem.P.repr_of_str (by have := fin s.toks (s.toks + 1); simp only [PyData.shown] at this; exact this) (by simpa [PyData.shown] using hz)
  | lst s0 ha =>
    cases rv
    exact repr_of_reads' rd hs (PyData.noDict_hsm hn) hgd (by omega) (fun _ _ e => e) (fun h' t tk hk => ⟨.str _, H, I.kept (t' := tk) hk, ⟨t, rfl⟩, q⟩) hz
  | tup s0 ha =>
    cases rv
    exact repr_of_reads' rd hs (PyData.noDict_hsm hn) hgd (by omega) (fun _ _ e => e) (fun h' t tk hk => ⟨.str _, H, I.kept (t' := tk) hk, ⟨t, rfl⟩, q⟩) hz
theorem wc_repr {Q : D → List Ob → Prop} {d : D} {p : PyData} (hgd : X.A.guards = some []) (hu : X.A.units + 70 < cLine) (h : Py ms d p) (hs : p.showable = true) (hn : p.hasDict = false) (hd : p.depth ≤ 64) (hz : p.shown.length ≤ sizeLine) (hq : Q (.str p.shown) ms) : WC X B ms (.builtin "repr") [d] Q :=
  WC.of (call_reprD hgd hu) fun H θ vs S r0 => by
    obtain ⟨v, rfl, r⟩ := reps1 r0
    exact ⟨v, p, rfl, Py.dp S p d v h r, hs, hn, hd, hz, pv_same S mk_str hq⟩
end
end VL

namespace VL
open PySem PySem.Spec PyProof.Rows L2

/-! ## dict comprehensions -/
section
variable {X : Cx} {B : Bs} {ds : List (Option D)} {ms : List Ob} {Q : D → List Ob → Prop} {elt kx vx tg iter : Expr} {ifs : List Expr} {scope : Scope} {own : List (Str × Nat)} {pos : Pos} {g : TG} {app : D → List (Option D) → Option (List (Option D))}
def DcWord (X : Cx) (ds : List (Option D)) (scope : Scope) (vs : List Nat) (app : D → List (Option D) → Option (List (Option D))) (kx vx : Expr) (items : List D) (G : List Ob → Prop) (m : List Ob) (Q : D → List Ob → Prop) : Prop :=
  ∃ Iv : Nat → List (Key × D) → List Ob → Prop, Iv 0 [] m ∧ (∀ i acc m', Iv i acc m' → G m') ∧
    (∀ i d acc m', items[i]? = some d → Iv i acc m' → acc.length < sizeLine ∧ ∃ ds', app d (wipeD ds vs) = some ds' ∧ ∀ (B : Bs) (s : Shared) (H : Hp) (C : Addr) (cl : List (Str × Addr)) (fp : List Addr),
      WE (X.blk s H scope (compEnvC scope cl C X.env) fp) B ds' m' kx fun ky m3 => ∃ k : Key, ky = kD k ∧ ∀ (s : Shared) (H : Hp) (C : Addr) (cl : List (Str × Addr)) (fp : List Addr), WE (X.blk s H scope (compEnvC scope cl C X.env) fp) B ds' m3 vx fun y m4 => Iv (i + 1) (putD acc k y) m4) ∧
    (∀ acc m', Iv items.length acc m' → Q (.obj m'.length) (m' ++ [.dK acc]))
theorem we_dc (hc : X.calm = true) (hN : X.N.Nodup) (ok : BlkOk X.N X.env.scope scope own) (T : TgLc X scope (own.map (·.2)) tg g app) (h : WI X B ds ms tg iter fun items G m => DcWord X ds scope (own.map (·.2)) app kx vx items G m Q)
    (hs : ∀ x, foldedSetIterable iter X.env x = pure x := by intro _; rfl) : WE X B ds ms (.DictComp kx vx [⟨tg, iter, [], 0⟩] scope pos) Q :=
  WE.pe (pe_dc hc hN pi_can ok T.pg (tt := tYes) (tk := teB X scope kx) (tv := teB X scope vx) (fun s H C cl fp => pts_nil) (fun s H C cl fp => ⟨fun pins s' σ H Q I h => h s _ C cl fp pins s' I⟩) (fun s H C cl fp => ⟨fun pins s' σ H Q I h => h s _ C cl fp pins s' I⟩) hs) fun σ H θ S L => by
  intro pins s I
  refine thn (h σ H θ S L pins s I) fun v s1 h1 => thn h1 fun itv s2 h2 => ?_
  obtain ⟨it, fp, tn, J, H1, e1, I1, T0, t0, hfp, items, G, m, more, im, S1, ⟨Iv, i0, iG, step, done⟩, Gh, Y, W, wg, wy⟩ := h2
  refine ⟨it, fp, tn, J, H1, e1, I1, T0, t0, hfp, fun Dl hD => ?_⟩
  have hlen : (θ ++ more).length = m.length := S1.len
  have L1 := L.mono (Le.app θ more) im
  have bD : Dl ∈ B.T0 ∨ B.H0 Dl = none := by
    by_cases hT : Dl ∈ B.T0
    · exact .inl hT
    · right
      cases q : B.H0 Dl with
      | none => rfl
      | some o => have := S1.keep Dl o q hT; rw [hD] at this; cases this
  -- the loop, by the turn
  let Pv : Nat → Hp → Prop := fun i H' => ∃ acc ws ms' θ', H' Dl = some (.dK ws) ∧ RepKV X.K θ' H' acc ws ∧ Dl ∉ θ' ∧ ImmP H1 H' ∧ θ'.take (θ ++ more).length = θ ++ more ∧ Sat X.K B θ' ms' H' ∧ Iv i acc ms'
  have p0 : Pv 0 (upd H1 Dl (.dK [])) := ⟨[], [], m, θ ++ more, upd_same, rfl, S1.notIn hD, ImmP.new hD, List.take_length, S1.fresh hD, i0⟩
  have pG : ∀ i H', Pv i H' → Gh H' := fun i H' ⟨acc, ws, ms', θ', hw, rw', nD, im', t', S', q⟩ => wg θ' ms' H' im' t' S' (iG i acc ms' q)
  refine ⟨fun i n H' => n = items.length - i ∧ i ≤ items.length ∧ Pv i H', ⟨items.length, by simp, Nat.zero_le _, p0⟩, ?_⟩
  rintro i n H' ⟨rfl, hi, p⟩
  by_cases hlt : i < items.length
  · refine .inr ⟨W.goes i H' hlt (pG i H' p), Pv (i + 1), fun H2 p2 => ⟨items.length - (i + 1), by omega, rfl, hlt, p2⟩, fun x H2 y0 => ?_⟩
    have y := W.yields i H' x H2 hlt (pG i H' p) y0
    obtain ⟨acc, ws, ms', θ', hw, rw', nD, im', t', S', q⟩ := p
    obtain ⟨d, hd, sm2, S2, r2⟩ := wy i x H' H2 θ' ms' hlt im' t' S' (iG i acc ms' q) y
    have im2 : ImmP H' H2 := fun a o h _ => sm2 a o h
    obtain ⟨hz, ds', ea, body⟩ := step i d acc ms' hd q
    have L2' : Slr X.K θ' H2 ds σ := L1.mono (le_of_take t') (im'.trans im2)
    obtain ⟨σ2, hg, L3, hwp⟩ := T.go σ H2 θ' x d _ ds' ea r2 (L2'.wipe _)
    refine hg _ ⟨hwp, ?_⟩
    show teB X scope kx σ2 H2 _
    intro s3 H0 C cl fp3
    refine WE.bind (body ⟨H2, θ'⟩ s3 H0 C cl fp3) S2.here L3 fun ky m3 kv H3 more3 q3 r3 im3 S3 L4 => ?_
    obtain ⟨k, rfl, q3⟩ := q3
    intro s4 H0' C' cl' fp4
    refine WE.bind (q3 s4 H0' C' cl' fp4) S3 L4 fun yd m4 yv H4 more4 q4 r4 im4 S4 L5 => ?_
    have hw4 : H4 Dl = some (.dK ws) := S4.keep Dl _ (sm2 _ _ hw) nD
    have nD4 : Dl ∉ θ' ++ more3 ++ more4 := fun z => by
      rcases S4.new Dl z with q | q
      · exact nD q
      · have := sm2 _ _ hw
        rw [show H2 Dl = none from q] at this; cases this
    have SB : Sat X.K B (θ' ++ more3 ++ more4) m4 H4 := S2.rebase S4
    have imA : ImmP H1 H4 := ((im'.trans im2).trans im3).trans im4
    have rws : RepKV X.K (θ' ++ more3 ++ more4) H4 acc ws := RepKV.mono ((Le.app _ _).trans (Le.app _ _)) ((im2.trans im3).trans im4) _ _ rw'
    obtain ⟨S6, im6⟩ := SB.other (o := .dK (putK ws k yv)) nD4 bD hw4 rfl
    refine ⟨ws, k, rep_kD r3, hw4, by rw [rw'.length]; exact hz, putD acc k yd, putK ws k yv, m4, θ' ++ more3 ++ more4, upd_same, RepKV.mono (Le.refl _) im6 _ _ (rws.put k r4), nD4, imA.trans im6, ?_, S6, q4⟩
    rw [List.append_assoc, take_app (le_len t')]; exact t'
  · have e : i = items.length := by omega
    subst e
    refine .inl ⟨W.stops H' (pG _ H' p), ?_⟩
    obtain ⟨acc, ws, ms', θ', hw, rw', nD, im', t', S', q⟩ := p
    have e : θ' = θ ++ (more ++ θ'.drop (θ ++ more).length) := by
      rw [← List.append_assoc]
      conv => lhs; rw [← List.take_append_drop (θ ++ more).length θ', t']
    have S2 := S'.adopt (ob := .dK acc) nD bD ⟨ws, hw, RepKV.mono (Le.app _ _) (ImmP.refl _) _ _ rw'⟩
    refine ⟨.obj ms'.length, ms' ++ [.dK acc], more ++ θ'.drop (θ ++ more).length ++ [Dl], ?_, im.trans im', ?_, done acc ms' q⟩
    · rw [← List.append_assoc, ← e]
      exact mk_obj (by rw [← S'.len]; simp)
    · rw [← List.append_assoc, ← e]
      exact S2
/-- xs.index(y), texts -/
theorem wm_indexS {k : Nat} {xs : List Str} {y : Str} {j : Nat} (hk : ms[k]? = some (.lst (xs.map D.str))) (hj : xs[j]? = some y) (hno : ∀ (i : Nat) (z : Str), i < j → xs[i]? = some z → z ≠ y) (q : Q (.int (j : Nat)) ms) : WM X B ms "list.index" (.obj k) [.str y] Q := WM.of mt_index fun H θ x vs S r r0 => by
  obtain ⟨w, rfl, rw'⟩ := reps1 r0
  cases rep_str rw'
  obtain ⟨a, e, rfl⟩ := rep_obj r
  obtain ⟨ws, s, rs⟩ := S.obs k _ a hk e
  cases rs.strs
  refine ⟨a, xs.map V.str, .str y, j, .str y, rfl, rfl, SqL.of s, rfl, ?_, by rw [List.getElem?_map, hj]; rfl, ?_, fun i z hi hz => ?_, pv_same S mk_int q⟩
  · rw [List.all_map]; exact List.all_eq_true.mpr fun _ _ => rfl
  · show (y == y) = true
    exact beq_self_eq_true y
  · rw [List.getElem?_map] at hz
    obtain ⟨z', e1, e2⟩ := Option.map_eq_some_iff.mp hz
    subst e2
    show (z' == y) = false
    exact beq_eq_false_iff_ne.mpr (hno i z' hi e1)
end

/-! ## the end of a law -/
theorem callG {P : Program} {w : World} {K : PySem.W.Frag} {mg mb : Str → Option Value} {k : Nat} {fa a : Addr} {fd : FuncData} {x : Str} {sp : Sp} {s : Shared} {us : List Value} {ns : List Int}
    (hK : K.In s.heap) (hm : s.heap.Ns mainGlobals mg) (hB : s.heap.Ns builtinsNs mb) (hBb : ∀ x : Str, x ≠ "__name__" → mb x = bootBuiltins x)
    (hL : s.heap.NoLimit) (hG : s.gens = #[]) (ha : s.heap.get? a = some { cls := .type "list", data := .seq us.toArray })
    (hi : IntsAre us ns) (hz : ns.length ≤ sizeLine) (hr : Room k callerA)
    (F : ∀ base : Heap, K.In base → base.Ns mainGlobals mg → FnG P w K mg base k fa fd [x] sp)
    (hbd : ∀ (s : Shared) (u : Value), BindsTo s fd ⟨[u], []⟩ [(x, u)])
    (hsp : ∀ H : Hp, SqLi K H a (ns.map V.int) → sp [.ref a] H (fun v _ => v = .bl true) E0) :
    codeAny (model P w) callerA (.call (.ref fa) ⟨[.ref a], []⟩)
      (fun r s' => r = .ok (.ret (.bool true)) ∧ OldK s.heap s'.heap ∧ s'.os = s.os ∧ AllBare s'.gens) s := by
  have rel := vals_ints hi
  have hul : us.length = ns.length := hi.length
  -- run from an abstract heap that tracks at most the script
  have run : ∀ H : Hp, Only H → SqLi K H a (ns.map V.int) → HOk P w H s.heap → (∀ b, H b ≠ none → b = a) →
      (H a ≠ none → K.lookup a = none) →
      codeAny (model P w) callerA (.call (.ref fa) ⟨[.ref a], []⟩)
        (fun r s' => r = .ok (.ret (.bool true)) ∧ OldK s.heap s'.heap ∧ s'.os = s.os ∧ AllBare s'.gens) s := by
    intro H only hS ok one kno
    have inB : ∀ {b : Addr} {o : Obj}, s.heap.get? b = some o → H b = none → (hidT s.heap H).get? b = some o := fun e n => hidT_get e n
    have free : ∀ {b : Addr} {o : Obj}, s.heap.get? b = some o → (∃ es ep, o.data = .dict es ep) → H b = none := by
      intro b o e hd
      cases q : H b with
      | none => rfl
      | some u =>
        have eb := one b (by rw [q]; exact fun z => by cases z)
        subst eb
        rw [ha] at e
        cases e
        obtain ⟨es, ep, hd⟩ := hd
        cases hd
    have nsB : ∀ {b : Addr} {m : Str → Option Value}, s.heap.Ns b m → (hidT s.heap H).Ns b m := by
      rintro b m ⟨o, es, ep, e, d, r⟩
      exact ⟨o, es, ep, inB e (free e ⟨es, ep, d⟩), d, r⟩
    have kB : K.In (hidT s.heap H) := by
      intro b o e
      refine inB (hK b o e) ?_
      cases q : H b with
      | none => rfl
      | some u =>
        have eb := one b (by rw [q]; exact fun z => by cases z)
        subst eb
        rw [kno (by rw [q]; exact fun z => by cases z)] at e
        cases e
    have lim : (hidT s.heap H).NoLimit := by
      obtain ⟨mc, h1, h2⟩ := hL
      exact ⟨mc, nsB h1, h2⟩
    have md : Mod K mg (hidT s.heap H) := ⟨kB, nsB hm, ⟨mb, nsB hB, hBb⟩, lim⟩
    have e0 : Env0 P w K mg (hidT s.heap H) callerA [] s H :=
      { frames := rfl, mod := md, bs := fun b o e => of_hidT e, bsz := Nat.le_of_eq (hidT_size _ _), funs := trivial, frf := fun b hb => (by cases hb), hok := ok, bare := .of_eq hG }
    refine codeAny_mono ((F _ kB (nsB hm)).run callerA [] s H ⟨[.ref a], []⟩ [.ref a] [.ref a] _ hr rfl e0 (hbd s (.ref a)) (.cons rfl .nil) (hsp H hS)) fun r s' h => ?_
    match r, h with
    | .ok (.ret u), ⟨v, H', os, bare, un, ok', rv, q⟩ =>
      cases (show v = V.bl true from q)
      cases (show u = Value.bool true from rv)
      refine ⟨rfl, OldK.of_keep fun b o e => ?_, os, bare⟩
      rcases only b with z | ⟨ob, xs, z⟩
      · exact un.keep b o e z (by intro h; cases h) (by intro h; cases h)
      · obtain ⟨e1, _⟩ := ok b _ z
        obtain ⟨e2, _⟩ := ok' b _ (un.frzs b ob _ z)
        rw [e] at e1
        cases e1
        exact e2
  cases hk : K.lookup a with
  | some o =>
    have e := hK a o hk
    rw [ha] at e
    cases e
    exact run (fun _ => none) (fun _ => .inl rfl)
      (.inr ⟨_, us.toArray, _, hk, rfl, rfl, rfl, by rw [List.size_toArray, hul]; exact hz, by simpa using rel⟩)
      (fun b u z => by cases (show (none : Option HO) = some u from z)) (fun b z => absurd rfl z) (fun z => absurd rfl z)
  | none =>
    refine run (fun b => if b = a then some (.frz { cls := .type "list", data := .seq us.toArray } (.lst (ns.map V.int))) else none)
      (fun b => ?_) (.inl ⟨{ cls := .type "list", data := .seq us.toArray }, if_pos rfl⟩) (fun b u z => ?_) (fun b z => ?_) (fun _ => hk)
    · by_cases hb : b = a
      · exact .inr ⟨_, _, if_pos hb⟩
      · exact .inl (if_neg hb)
    · by_cases hb : b = a
      · have e := (if_pos hb).symm.trans z
        cases e
        subst hb
        exact ⟨ha, by rw [List.length_map]; exact hz, us, _, rel, ha⟩
      · have e := (if_neg hb).symm.trans z
        cases e
    · by_cases hb : b = a
      · exact hb
      · exact absurd (if_neg hb) z
theorem walkG {l : PySem.W.OpenLaw} {n k : Nat} {q : Program} {loose : List Str} {XP : (Str → Option Value) → Heap → Prop} {YP : World → Heap → Prop} {d : DefRec} {K : Params → PySem.W.Frag} {sp : World → Sp} {x : Str}
    (hn : l.most = some n) (hn2 : n ≤ sizeLine) (hdf : d.params.defaults = []) (hr : Room k callerA) (hY : ∀ (w : World) (h : Heap), YP w h → (K w.params).In h)
    (F : ∀ (w : World) (mg : Str → Option Value) (fa : Addr) (h : Heap), (K w.params).In h → h.Ns mainGlobals mg → mg d.name = some (.ref fa) →
      ∃ fd : FuncData, (∀ (s : Shared) (u : Value), BindsTo s fd ⟨[u], []⟩ [(x, u)]) ∧ ∀ base : Heap, (K w.params).In base → base.Ns mainGlobals mg → FnG l.prog w (K w.params) mg base k fa fd [x] (sp w))
    (hsp : ∀ (w : World) (H : Hp) (a : Addr) (ns : List Int), ns.length ≤ n → SqLi (K w.params) H a (ns.map V.int) → sp w [.ref a] H (fun v _ => v = .bl true) E0) :
    PySem.W.WalkO q loose XP YP l.row.toRowW d [] (fun f vs => PySem.call f vs) := by
  refine Att.attach_call hn hdf fun w s0 s1 mg mb fa o pm cd doc a vs ns G Y ho hd hcd hmg hobj hints hlen hg => ?_
  have kx := hY w _ Y
  obtain ⟨fd, hb, hF⟩ := F w mg fa _ kx G.T.g hmg
  exact callG kx G.T.g G.T.b G.T.builtins G.T.nolimit hg hobj hints (Nat.le_trans hlen hn2) hr hF hb fun H hS => hsp w H a ns hlen hS
/-- a law's promise: the script read only, True in the end -/
def lawV (n : Nat) : VSp := fun dl ms R => ∃ ns : List Int, ns.length ≤ n ∧ dl = [.rol (ns.map D.int)] ∧ ms = [] ∧ ∀ m, R (.bl true) m
theorem reps_ints {K : PySem.W.Frag} {θ : List Addr} {H : Hp} : ∀ (ns : List Int), Reps K θ H (ns.map D.int) (ns.map V.int)
  | [] => mk_nil
  | _ :: r => mk_cons mk_int (reps_ints r)
theorem lawV_sp {K : PySem.W.Frag} {H : Hp} {a : Addr} {ns : List Int} {n : Nat} (hl : ns.length ≤ n) (h : SqLi K H a (ns.map V.int)) : spOf K (lawV n) [.ref a] H (fun v _ => v = .bl true) E0 :=
  ⟨[.rol (ns.map D.int)], [], [], fun d _ => d = .bl true, mk_cons (by unfold Rep; exact ⟨a, _, rfl, h, reps_ints ns⟩) mk_nil,
    ⟨rfl, List.nodup_nil, fun k ob a h => by simp at h, fun b o e _ => e, fun a h => by cases h⟩, ⟨ns, hl, rfl, rfl, fun m => rfl⟩, fun d ms' hd v H' more r _ _ => by subst hd; exact rep_bl r⟩
end VL

namespace VL
open PySem PySem.Spec PyProof.Rows L2

theorem gL {α : Type} {l : List α} {a : α} : (l ++ [a])[l.length]? = some a := by simp
theorem gA {α : Type} {l r : List α} {k : Nat} {a : α} (h : l[k]? = some a) : (l ++ r)[k]? = some a := by rw [List.getElem?_append_left (List.getElem?_eq_some_iff.mp h).1]; exact h
theorem gM {α : Type} {l r : List α} {a : α} : (l ++ a :: r)[l.length]? = some a := by simp
theorem setM {α : Type} {l r : List α} {a b : α} : (l ++ a :: r).set l.length b = l ++ b :: r := by simp
/-! ## what a return keeps -/
section
variable {K : PySem.W.Frag} {X : Cx} {B : Bs} {θ : List Addr} {ms ml : List Ob} {H : Hp} {ι : List Nat} {ds : List (Option D)} {fl : Nat} {E : En}
theorem Fr.pick {d dd : D} (F : Fr ms [d] ι ml [dd]) (S : Sat K B θ ms H) {v : V} (r : Rep K θ H d v) : Rep K (sub θ ι) H dd v ∧ Sat K B (sub θ ι) ml H := by
  have S' := F.sat S
  have r' := F.reps S (mk_cons r mk_nil)
  obtain ⟨w, vs, e, rw', _⟩ := reps_cons r'
  cases e
  refine ⟨rw', ⟨S'.len, S'.nd, S'.obs, S.keep, fun a ha => ?_⟩⟩
  obtain ⟨j, hj, e⟩ := List.getElem_of_mem ha
  obtain ⟨k, _, q⟩ := sub_get (F.bound S) (by rw [List.getElem?_eq_getElem hj, e] : (sub θ ι)[j]? = some a)
  exact S.new a (List.mem_of_getElem? q)
/-- what is handed back: a part of the store, in an order of its own -/
theorem wss_ret {st : List Stmt} (R : D → List Ob → Prop) (q : ∀ d m, R d m → ∃ ι ml dd, Fr m [d] ι ml [dd] ∧ (∀ j, j < fl → ι[j]? = some j) ∧ E.rt dd ml) (h : WSs X B fl ds ms st { E with rt := R }) : WSs X B fl ds ms st E := .mk fun σ H θ hf S L =>
  (h σ H θ hf S L).imp (fun _ _ z => z) (fun v H' z => by
    obtain ⟨d, m, θ', r, im, t, S', hq⟩ := z
    obtain ⟨ι, ml, dd, F, hj, qe⟩ := q d m hq
    obtain ⟨r2, S2⟩ := F.pick S' r
    refine ⟨dd, ml, sub θ' ι, r2, im, ?_, S2, qe⟩
    rw [← t]
    apply List.ext_getElem?
    intro i
    by_cases hi : i < fl
    · rw [List.getElem?_take_of_lt hi, List.getElem?_take_of_lt hi]
      unfold sub
      rw [List.getElem?_map, hj i hi]
      have hl : i < θ'.length := F.bound S' i (List.mem_of_getElem? (hj i hi))
      show some (θ'.getD i 0) = _
      rw [List.getD_eq_getElem?_getD, List.getElem?_eq_getElem hl]
      rfl
    · rw [List.getElem?_take_eq_none (by omega), List.getElem?_take_eq_none (by omega)]) (fun _ _ z => z) (fun _ _ z => z)
theorem Fr.noneI {ms : List Ob} {d : D} (h : d.im = true) : Fr ms [d] [] [] [d] := Fr.none (by simp [imAll, h])
end

/-! ## values in, a value out -/
def pureV (p : List D → D → Prop) : VSp := fun dl ms R => ms = [] ∧ ∃ v, p dl v ∧ R v []
/-- a def with its name -/
structure Dc (P : Program) (w : World) (K : PySem.W.Frag) (mg : Str → Option Value) (base : Heap) (k : Nat) (x : Str) (ps : List Str) (φ : VSp) : Prop where
  ex : ∃ (f : Addr) (fd : FuncData), FnG P w K mg base k f fd ps (spOf K φ) ∧ mg x = some (.ref f) ∧ PySem.W.keepIn K (.ref f) = true ∧ Binds K fd ps []
theorem Dc.up {P : Program} {w : World} {K : PySem.W.Frag} {mg : Str → Option Value} {base : Heap} {j k : Nat} {x : Str} {ps : List Str} {φ : VSp} (d : Dc P w K mg base j x ps φ) (h : j ≤ k) : Dc P w K mg base k x ps φ := by
  obtain ⟨f, fd, G, a, b, c⟩ := d.ex
  exact ⟨f, fd, G.up h, a, b, c⟩
section
variable {P : Program} {w : World} {K : PySem.W.Frag} {mg : Str → Option Value} {base : Heap}
theorem vfnP {x qual : Str} {st : Stmt} {f : Addr} {fd : FuncData} {N ps : List Str} {k : Nat} {p : List D → D → Prop} (F : Fun K x qual st f fd) (S : FnScope N ps (defScope st)) (len : ∀ dl v, p dl v → dl.length = ps.length) (im : ∀ dl v, p dl v → v.im = true)
    (body : ∀ (cdv : Value) (A : Around) (outer : List Env) (s : Shared) (H : Hp), Room k (A.deeper (envOfC qual (defScope st) s.heap.objs.size f cdv)) → (A.deeper (envOfC qual (defScope st) s.heap.objs.size f cdv)).guards = some [] → ∀ (B : Bs) (dl : List D) (v : D), p dl v →
      WSs (cxOf CX0 P w K mg base N qual (defScope st) f cdv A outer s H E0).nox B 0 (startD N.length dl) [] (defBody st) ⟨fun _ _ => v = .non, fun d _ => d = v, fun _ _ => False, fun _ _ => False⟩) : FnG P w K mg base (k + 1) f fd ps (spOf K (pureV p)) := by
  refine vfn F S (fun dl ms R h => ?_) (fun cdv A outer s H hr hgd B dl ms R h => ?_)
  · obtain ⟨_, v, h, _⟩ := h
    exact len dl v h
  · obtain ⟨rfl, v, h, q⟩ := h
    have hv := im dl v h
    have hb := body cdv A outer s H hr hgd B dl v h
    refine .mk fun σ H1 θ hf S L => (hb σ H1 θ hf S L).imp (fun σ' H' z => ?_) (fun v' H' z => ?_) (fun _ _ z => z) (fun _ _ z => z)
    · obtain ⟨ds', m, θ', L', im', t, S', rfl⟩ := z
      obtain ⟨r2, S2⟩ := (Fr.noneI (ms := m) hv).pick S' mk_non
      exact ⟨ds'.map fun _ => none, [], sub θ' [], ⟨by rw [List.length_map]; exact L'.len, fun i d e => by rw [List.getElem?_map] at e; obtain ⟨_, _, q⟩ := Option.map_eq_some_iff.mp e; cases q⟩, im', by simp, S2, q⟩
    · obtain ⟨d, m, θ', r, im', t, S', rfl⟩ := z
      obtain ⟨r2, S2⟩ := (Fr.noneI (ms := m) hv).pick S' r
      exact ⟨d, [], sub θ' [], r2, im', by simp, S2, q⟩
theorem dc_mk {x : Str} {st : Stmt} {f : Addr} {fd : FuncData} {ps : List Str} {k : Nat} {φ : VSp} (F : Fun K x x st f fd) (G : FnG P w K mg base k f fd ps (spOf K φ)) (hm : mg x = some (.ref f))
    (h : ∀ (kV doc pm : Value) (an : Option Addr) (cdv ct : Value) (us : List Value), us.length = ps.length → bindArgs (PySem.W.fnOf x x (defArgs st) (defBody st) (defScope st) .none kV doc pm an cdv ct) ⟨us, []⟩ = pure (ps.zip us)) : Dc P w K mg base k x ps φ :=
  ⟨f, fd, G, hm, F.kp, F.binds h⟩
end
section
variable {X : Cx} {B : Bs} {ds : List (Option D)} {ms : List Ob} {Q : D → List Ob → Prop} {pos : Pos} {φ : VSp} {p : List D → D → Prop} {k : Nat} {x : Str} {ps : List Str}
theorem we_callD {xp : Pos} {e : Expr} {es : List Expr} (G : Dc X.prog X.w X.K X.mg X.base k x ps φ) (hr : Room k X.A) (hgd : X.A.guards = some []) (hg : Gl X x)
    (h : WA X B ds ms (e :: es) fun dl m => CallF φ dl m Q) (hdb : (x == ("__debug__" : Str)) = false := by decide) (he : starEach (e :: es) X.env = (false, eval e X.env) :: starEach es X.env := by rfl) (hpl : (backTo pos (starEach es X.env)).any (·.1) = false := by rfl) :
    WE X B ds ms (.Call (.Name x xp) (e :: es) [] pos) Q := by
  obtain ⟨f, fd, G, a, b, c⟩ := G.ex
  exact we_call G hr hgd a b c hg h hdb he hpl
theorem callF_P {dl : List D} (hi : imAll dl = true) {v : D} (hp : p dl v) (hv : v.im = true) (q : Q v ms) : CallF (pureV p) dl ms Q :=
  callF_pure hi ⟨rfl, v, hp, rfl, hv, q⟩ fun R R' hR ⟨a, v, b, c⟩ => ⟨a, v, b, hR _ _ c⟩
theorem WA.imp {es : List Expr} {Q Q' : List D → List Ob → Prop} (h : WA X B ds ms es Q') (q : ∀ d m, Q' d m → Q d m) : WA X B ds ms es Q := .mk fun σ H θ S L => (h σ H θ S L).mono fun v H' ⟨dl, m, more, a, b, c, z⟩ => ⟨dl, m, more, a, b, c, q dl m z⟩
/-- the call of a def, values in, a value out -/
theorem we_callP {xp : Pos} {e : Expr} {es : List Expr} (G : Dc X.prog X.w X.K X.mg X.base k x ps (pureV p)) (hr : Room k X.A) (hgd : X.A.guards = some []) (hg : Gl X x)
    (h : WA X B ds ms (e :: es) fun dl m => imAll dl = true ∧ ∃ v, p dl v ∧ v.im = true ∧ Q v m) (hdb : (x == ("__debug__" : Str)) = false := by decide) (he : starEach (e :: es) X.env = (false, eval e X.env) :: starEach es X.env := by rfl) (hpl : (backTo pos (starEach es X.env)).any (·.1) = false := by rfl) :
    WE X B ds ms (.Call (.Name x xp) (e :: es) [] pos) Q :=
  we_callD G hr hgd hg (WA.imp h fun d m ⟨a, v, b, c, q⟩ => callF_P a b c q) hdb he hpl
end
theorem imAll_iff {ds : List D} : imAll ds = true ↔ ∀ d ∈ ds, d.im = true := by
  induction ds with
  | nil => simp [imAll]
  | cons d ds ih => simp [imAll, ih]
theorem im_ints (ns : List Int) : imAll (ns.map D.int) = true := imAll_iff.mpr fun d hd => by
  obtain ⟨i, _, rfl⟩ := List.mem_map.mp hd; rfl
theorem im_strs (ns : List Str) : imAll (ns.map D.str) = true := imAll_iff.mpr fun d hd => by
  obtain ⟨i, _, rfl⟩ := List.mem_map.mp hd; rfl

mutual
theorem im_cl {n : Nat} : ∀ {d : D}, d.im = true → d.cl n = true
  | .non, _ => rfl
  | .bl _, _ => rfl
  | .int _, _ => rfl
  | .str _, _ => rfl
  | .ref _, _ => rfl
  | .ty _, _ => rfl
  | .obj _, h => by simp [D.im] at h
  | .tup ds, h => by unfold D.cl; exact im_clA (by simpa [D.im] using h)
  | .rol ds, h => by unfold D.cl; exact im_clA (by simpa [D.im] using h)
  | .rod _ ds, h => by unfold D.cl; exact im_clA (by simpa [D.im] using h)
theorem im_clA {n : Nat} : ∀ {ds : List D}, imAll ds = true → clAll n ds = true
  | [], _ => rfl
  | d :: ds, h => by
    have h' : d.im = true ∧ imAll ds = true := by simpa [imAll] using h
    unfold clAll; rw [im_cl h'.1, im_clA h'.2]; rfl
end
/-! ## comprehensions that only tell values -/
/-- [f x for x in xs]: nothing of the store is looked at or changed but what stays -/
theorem lc_map {α : Type} {X : Cx} {ds : List (Option D)} {scope : Scope} {vs : List Nat} {app : D → List (Option D) → Option (List (Option D))} {elt : Expr} {G : List Ob → Prop} {m : List Ob} {Q : D → List Ob → Prop} (xs : List α) (e : α → D) (f : α → D)
    (hz : xs.length ≤ sizeLine) (hG : G m)
    (step : ∀ a ∈ xs, ∃ ds', app (e a) (wipeD ds vs) = some ds' ∧ ∀ (B : Bs) (s : Shared) (H : Hp) (C : Addr) (cl : List (Str × Addr)) (fp : List Addr), WE (X.blk s H scope (compEnvC scope cl C X.env) fp) B ds' m elt fun y m4 => y = f a ∧ m4 = m)
    (q : Q (.obj m.length) (m ++ [.lst (xs.map f)])) : LcWord X ds scope vs app [] elt (xs.map e) G m Q := by
  refine ⟨fun i acc m' => acc = (xs.take i).map f ∧ m' = m, ⟨rfl, rfl⟩, fun i acc m' ⟨_, h⟩ => h ▸ hG, fun i d acc m' hi ⟨ha, hm'⟩ => ?_, fun acc m' ⟨ha, hm'⟩ => ?_⟩
  · subst hm'
    rw [List.getElem?_map] at hi
    obtain ⟨a, ea, rfl⟩ := Option.map_eq_some_iff.mp hi
    have hlt : i < xs.length := (List.getElem?_eq_some_iff.mp ea).1
    have hmem : a ∈ xs := List.mem_of_getElem? ea
    obtain ⟨ds', h1, h2⟩ := step a hmem
    refine ⟨by rw [ha, List.length_map, List.length_take]; omega, ds', h1, fun B s H C cl fp => ⟨fun _ s H C cl fp => ?_, fun h => by cases h⟩⟩
    refine we_imp (h2 B s H C cl fp) fun y m4 ⟨hy, ht⟩ => .inl ⟨?_, ht⟩
    rw [hy, ha, List.take_succ, ea, List.map_append]; rfl
  · subst hm'
    rw [ha, List.length_map, List.take_length]
    exact q
/-- a class with its name; a method of a class -/
def MkC (P : Program) (w : World) (K : PySem.W.Frag) (mg : Str → Option Value) (base : Heap) (k : Nat) (x : Str) (C : Addr) (ps : List Str) (φ : VSp) : Prop :=
  ∃ (f : Addr) (fd : FuncData), FnG P w K mg base k f fd ps (spOf K φ) ∧ mg x = some (.ref C) ∧ Mk K C f ∧ Binds K fd ps []
def MtC (P : Program) (w : World) (K : PySem.W.Frag) (mg : Str → Option Value) (base : Heap) (k : Nat) (C : Addr) (m : Str) (ps : List Str) (φ : VSp) : Prop :=
  ∃ (f : Addr) (fd : FuncData), FnG P w K mg base k f fd ps (spOf K φ) ∧ Meth K C m f ∧ Binds K fd ps []
section
variable {X : Cx} {B : Bs} {ds : List (Option D)} {ms : List Ob} {Q : D → List Ob → Prop} {pos : Pos} {φ : VSp} {k : Nat} {x : Str} {ps : List Str} {C : Addr}
theorem we_makeD {xp : Pos} {e : Expr} {es : List Expr} (M : MkC X.prog X.w X.K X.mg X.base k x C ps φ) (hr : Room (k + 1) X.A) (hgd : X.A.guards = some []) (hg : Gl X x)
    (h : WA X B ds ms (e :: es) fun dl m => CallF φ (.obj m.length :: dl) (m ++ [.ins C []]) fun d m' => d = .non ∧ Q (.obj m.length) m')
    (hdb : (x == ("__debug__" : Str)) = false := by decide) (he : starEach (e :: es) X.env = (false, eval e X.env) :: starEach es X.env := by rfl) (hpl : (backTo pos (starEach es X.env)).any (·.1) = false := by rfl) :
    WE X B ds ms (.Call (.Name x xp) (e :: es) [] pos) Q := by
  obtain ⟨f, fd, G, hm, M, hb⟩ := M
  exact we_make M G hr hgd hm hb hg h hdb he hpl
theorem we_methD {o : Expr} {m : Str} {apos : Pos} {e : Expr} {es : List Expr} {pl : Sem Bool} (c : Cls X.K C) (M : MtC X.prog X.w X.K X.mg X.base k C m ps φ) (hr : Room k X.A) (hgd : X.A.guards = some [])
    (h : WE X B ds ms o fun d m1 => ∃ j fs, d = .obj j ∧ m1[j]? = some (.ins C fs) ∧ fs.lookup m = none ∧ WA X B ds m1 (e :: es) fun dl m2 => CallF φ (d :: dl) m2 Q)
    (hst : starEach (e :: es) X.env = (false, eval e X.env) :: starEach es X.env := by rfl) (hpl : (backTo pos (starEach es X.env)).any (·.1) = false := by rfl)
    (ht : eval (.Call (.Attribute o m apos) (e :: es) [] pos) X.env = (do
      let ov ← eval o X.env
      standAt apos.atName
      let (f, first) ← holding [ov] (getMethod ov m pl)
      callWith pos f first (backTo pos (starEach (e :: es) X.env)) (backToKw pos (keywordEach [] X.env))) := by rfl) :
    WE X B ds ms (.Call (.Attribute o m apos) (e :: es) [] pos) Q := by
  obtain ⟨f, fd, G, hm, hb⟩ := M
  exact we_meth c hm G hr hgd hb h hst hpl ht
theorem we_methD0 {o : Expr} {m : Str} {apos : Pos} {pl : Sem Bool} (c : Cls X.K C) (M : MtC X.prog X.w X.K X.mg X.base k C m ps φ) (hr : Room k X.A) (hgd : X.A.guards = some [])
    (h : WE X B ds ms o fun d m1 => ∃ j fs, d = .obj j ∧ m1[j]? = some (.ins C fs) ∧ fs.lookup m = none ∧ CallF φ [d] m1 Q)
    (ht : eval (.Call (.Attribute o m apos) [] [] pos) X.env = (do
      let ov ← eval o X.env
      standAt apos.atName
      let (f, first) ← holding [ov] (getMethod ov m pl)
      callWith pos f first (backTo pos (starEach [] X.env)) (backToKw pos (keywordEach [] X.env))) := by rfl) :
    WE X B ds ms (.Call (.Attribute o m apos) [] [] pos) Q := by
  obtain ⟨f, fd, G, hm, hb⟩ := M
  exact we_meth0 c hm G hr hgd hb h ht
end
/-! ## a new list of values -/
def listV (p : List D → List D → Prop) : VSp := fun dl ms R => ms = [] ∧ ∃ items, p dl items ∧ R (.obj 0) [.lst items]
theorem Fr.oneL {m : List Ob} {k : Nat} {items : List D} (hi : imAll items = true) (h : m[k]? = some (.lst items)) : Fr m [.obj k] [k] [.lst items] [.obj 0] where
  nd := by simp
  len := rfl
  at_ := fun j i e => by
    match j, e with
    | 0, e => cases e; exact ⟨.lst items, rfl, by rw [h]; show _ = some (Ob.lst (renAll _ items)); rw [renAll_im _ _ hi]⟩
    | j + 1, e => simp at e
  args := rfl
section
variable {P : Program} {w : World} {K : PySem.W.Frag} {mg : Str → Option Value} {base : Heap}
theorem vfnL {x qual : Str} {st : Stmt} {f : Addr} {fd : FuncData} {N ps : List Str} {k : Nat} {p : List D → List D → Prop} (F : Fun K x qual st f fd) (S : FnScope N ps (defScope st)) (len : ∀ dl v, p dl v → dl.length = ps.length) (im : ∀ dl v, p dl v → imAll v = true)
    (body : ∀ (cdv : Value) (A : Around) (outer : List Env) (s : Shared) (H : Hp), Room k (A.deeper (envOfC qual (defScope st) s.heap.objs.size f cdv)) → (A.deeper (envOfC qual (defScope st) s.heap.objs.size f cdv)).guards = some [] → ∀ (B : Bs) (dl : List D) (v : List D), p dl v →
      WSs (cxOf CX0 P w K mg base N qual (defScope st) f cdv A outer s H E0).nox B 0 (startD N.length dl) [] (defBody st) ⟨fun _ _ => False, fun d m => ∃ k, d = .obj k ∧ m[k]? = some (.lst v), fun _ _ => False, fun _ _ => False⟩) : FnG P w K mg base (k + 1) f fd ps (spOf K (listV p)) := by
  refine vfn F S (fun dl ms R h => ?_) (fun cdv A outer s H hr hgd B dl ms R h => ?_)
  · obtain ⟨_, v, h, _⟩ := h
    exact len dl v h
  · obtain ⟨rfl, v, h, q⟩ := h
    refine wss_ret (fun d m => ∃ k, d = .obj k ∧ m[k]? = some (.lst v)) (fun d m ⟨k, e, hk⟩ => ?_) ?_
    · subst e
      exact ⟨[k], _, _, Fr.oneL (im dl v h) hk, fun j (hj : j < 0) => absurd hj (Nat.not_lt_zero j), q⟩
    · exact .mk fun σ H1 θ hf S L => (body cdv A outer s H hr hgd B dl v h σ H1 θ hf S L).imp (fun _ _ z => by obtain ⟨_, _, _, _, _, _, _, z⟩ := z; exact z.elim) (fun _ _ z => z) (fun _ _ z => z) (fun _ _ z => z)
theorem Dc.of {x : Str} {ps : List Str} {k : Nat} {φ φ' : VSp} (d : Dc P w K mg base k x ps φ) (h : ∀ dl ms R, φ' dl ms R → φ dl ms R) : Dc P w K mg base k x ps φ' := by
  obtain ⟨f, fd, G, a, b, c⟩ := d.ex
  have up : ∀ {vs : List V} {H : Hp} {Q : VK} {E : XK}, spOf K φ' vs H Q E → spOf K φ vs H Q E := fun ⟨dl, ms, θ, R, r, S, p, f⟩ => ⟨dl, ms, θ, R, r, S, h _ _ _ p, f⟩
  exact ⟨f, fd, ⟨fun vs H Q z => G.len vs H Q (up z), fun A outer s H args us vs Q h1 h2 h3 h4 h5 h6 => G.run A outer s H args us vs Q h1 h2 h3 h4 h5 (up h6)⟩, a, b, c⟩
end
section
variable {X : Cx} {B : Bs} {ds : List (Option D)} {ms : List Ob} {Q : D → List Ob → Prop} {pos : Pos} {p : List D → List D → Prop} {k : Nat} {x : Str} {ps : List Str}
theorem we_callL {xp : Pos} {e : Expr} {es : List Expr} (G : Dc X.prog X.w X.K X.mg X.base k x ps (listV p)) (hr : Room k X.A) (hgd : X.A.guards = some []) (hg : Gl X x)
    (h : WA X B ds ms (e :: es) fun dl m => imAll dl = true ∧ ∃ v, p dl v ∧ imAll v = true ∧ Q (.obj m.length) (m ++ [.lst v])) (hdb : (x == ("__debug__" : Str)) = false := by decide) (he : starEach (e :: es) X.env = (false, eval e X.env) :: starEach es X.env := by rfl) (hpl : (backTo pos (starEach es X.env)).any (·.1) = false := by rfl) :
    WE X B ds ms (.Call (.Name x xp) (e :: es) [] pos) Q :=
  we_callD G hr hgd hg (WA.imp h fun d m ⟨a, v, b, c, q⟩ => ⟨[], [], d, Fr.none a, rfl, v, b, fun _ => by
    show Q (.obj (m.length + (0 - 0))) (m ++ [Ob.lst (renAll _ v)])
    rw [renAll_im _ _ c]; exact q⟩) hdb he hpl
end
theorem lc_mapE {α : Type} {X : Cx} {ds : List (Option D)} {scope : Scope} {vs : List Nat} {app : D → List (Option D) → Option (List (Option D))} {elt : Expr} {G : List Ob → Prop} {m : List Ob} {Q : D → List Ob → Prop} {items : List D} (xs : List α) (e : α → D) (f : α → D) (hi : items = xs.map e)
    (hz : xs.length ≤ sizeLine) (hG : G m)
    (step : ∀ a ∈ xs, ∃ ds', app (e a) (wipeD ds vs) = some ds' ∧ ∀ (B : Bs) (s : Shared) (H : Hp) (C : Addr) (cl : List (Str × Addr)) (fp : List Addr), WE (X.blk s H scope (compEnvC scope cl C X.env) fp) B ds' m elt fun y m4 => y = f a ∧ m4 = m)
    (q : Q (.obj m.length) (m ++ [.lst (xs.map f)])) : LcWord X ds scope vs app [] elt items G m Q := by
  subst hi; exact lc_map xs e f hz hG step q
/-- {k x: v x for x in xs}, no key twice -/
theorem dc_map {α : Type} {X : Cx} {ds : List (Option D)} {scope : Scope} {vs : List Nat} {app : D → List (Option D) → Option (List (Option D))} {kx vx : Expr} {G : List Ob → Prop} {m : List Ob} {Q : D → List Ob → Prop} {items : List D} (xs : List α) (e : α → D) (kf : α → Key) (vf : α → D) (hi : items = xs.map e)
    (hz : xs.length ≤ sizeLine) (nd : (xs.map kf).Nodup) (hG : G m)
    (step : ∀ a ∈ xs, ∃ ds', app (e a) (wipeD ds vs) = some ds' ∧ ∀ (B : Bs) (s : Shared) (H : Hp) (C : Addr) (cl : List (Str × Addr)) (fp : List Addr), WE (X.blk s H scope (compEnvC scope cl C X.env) fp) B ds' m kx fun y m4 => y = kD (kf a) ∧ m4 = m ∧
      ∀ (s : Shared) (H : Hp) (C : Addr) (cl : List (Str × Addr)) (fp : List Addr), WE (X.blk s H scope (compEnvC scope cl C X.env) fp) B ds' m vx fun z m5 => z = vf a ∧ m5 = m)
    (q : Q (.obj m.length) (m ++ [.dK (xs.map fun a => (kf a, vf a))])) : DcWord X ds scope vs app kx vx items G m Q := by
  subst hi
  refine ⟨fun i acc m' => acc = (xs.take i).map (fun a => (kf a, vf a)) ∧ m' = m, ⟨rfl, rfl⟩, fun i acc m' ⟨_, h⟩ => h ▸ hG, fun i d acc m' hi ⟨ha, hm'⟩ => ?_, fun acc m' ⟨ha, hm'⟩ => ?_⟩
  · subst hm'
    rw [List.getElem?_map] at hi
    obtain ⟨a, ea, rfl⟩ := Option.map_eq_some_iff.mp hi
    have hlt : i < xs.length := (List.getElem?_eq_some_iff.mp ea).1
    have hmem : a ∈ xs := List.mem_of_getElem? ea
    obtain ⟨ds', h1, h2⟩ := step a hmem
    refine ⟨by rw [ha, List.length_map, List.length_take]; omega, ds', h1, fun B s H C cl fp => we_imp (h2 B s H C cl fp) fun y m4 ⟨hy, ht, h3⟩ => ⟨kf a, hy, fun s H C cl fp => ?_⟩⟩
    subst ht
    refine we_imp (h3 s H C cl fp) fun z m5 ⟨hz', ht'⟩ => ⟨?_, ht'⟩
    have hno : (acc.any fun kv => decide (kv.1 = kf a)) = false := by
      rw [ha]
      refine Bool.eq_false_iff.mpr fun hh => ?_
      obtain ⟨kv, hkv, e⟩ := List.any_eq_true.mp hh
      obtain ⟨b, hb, rfl⟩ := List.mem_map.mp hkv
      obtain ⟨j, hj, e2⟩ := List.getElem_of_mem hb
      have hj' : j < i := by rw [List.length_take] at hj; omega
      rw [List.getElem_take] at e2
      have e3 : kf b = kf a := of_decide_eq_true e
      have l1 : j < (xs.map kf).length := by rw [List.length_map]; omega
      have l2 : i < (xs.map kf).length := by rw [List.length_map]; omega
      have : (xs.map kf)[j] = (xs.map kf)[i] := by
        rw [List.getElem_map, List.getElem_map, e2, e3]
        exact congrArg kf (Option.some.inj (ea.symm.trans (List.getElem?_eq_getElem hlt)))
      have := (List.getElem_inj nd).mp this
      omega
    unfold putD
    rw [hno, if_neg (by decide), ha, hz', List.take_succ, ea, List.map_append]; rfl
  · subst hm'
    rw [ha, List.length_map, List.take_length]
    exact q
theorem putFD_lt {f : Str} {v : D} : ∀ {fs : List (Str × D)} {n : Nat}, fs.length < n → (putFD f v fs).length < n + 1
  | [], n, h => by show 1 < n + 1; have : 0 < n := h; omega
  | (g, u) :: r, n, h => by
    unfold putFD
    by_cases e : g = f
    · rw [if_pos e]; exact Nat.lt_succ_of_lt h
    · rw [if_neg e, List.length_cons]
      have := putFD_lt (f := f) (v := v) (fs := r) (n := n - 1) (by rw [List.length_cons] at h; omega)
      have h0 : 0 < n := by rw [List.length_cons] at h; omega
      omega
theorem enumD_map {α : Type} (l : List α) (f : α → D) : enumD (l.map f) = l.zipIdx.map fun p => .tup [.int (p.2 : Nat), f p.1] := by
  apply List.ext_getElem?
  intro i
  unfold enumD
  rw [List.getElem?_zipWith, List.getElem?_map, List.getElem?_map, List.getElem?_zipIdx]
  cases e : l[i]? with
  | none => cases e2 : (List.range (l.map f).length)[i]? <;> rfl
  | some x =>
    have hi : i < l.length := (List.getElem?_eq_some_iff.mp e).1
    rw [List.getElem?_range (by rw [List.length_map]; exact hi)]
    simp
section
variable {X : Cx} {B : Bs} {ms : List Ob} {Q : D → List Ob → Prop} {a b : Expr}
theorem wx_DS {k : Nat} {kvs : List (Key × D)} {x : Str} {d : D} (hu : X.A.units + 1 < cLine) (hk : ms[k]? = some (.dK kvs)) (h : valD kvs (.inr x) = some d) (q : Q d ms) : WX X B ms a b (.obj k) (.str x) Q := wx_D (y := .inr x) hu hk h q
theorem wx_DI {k : Nat} {kvs : List (Key × D)} {x : Int} {d : D} (hu : X.A.units + 1 < cLine) (hk : ms[k]? = some (.dK kvs)) (h : valD kvs (.inl x) = some d) (q : Q d ms) : WX X B ms a b (.obj k) (.int x) Q := wx_D (y := .inl x) hu hk h q
end
/-! ## a new instance's __init__ -/
theorem fr_one (n j : Nat) : fr [n] (n + 1) j = n + j := by
  unfold fr
  by_cases h : j < [n].length
  · have : j = 0 := by simpa using h
    subst this; rw [dif_pos (show 0 < [n].length from Nat.zero_lt_one)]; rfl
  · rw [dif_neg h]
    have : ¬ j = 0 := by simpa using h
    show n + 1 + (j - 1) = n + j
    omega
theorem callF_init {φ : VSp} {m : List Ob} {C : Addr} {dl : List D} {Q : D → List Ob → Prop} (hi : imAll dl = true)
    (h : φ (.obj 0 :: dl) [.ins C []] fun d ml' => 1 ≤ ml'.length → Q (d.ren (m.length + ·)) (m ++ ml'.map (Ob.ren (m.length + ·)))) : CallF φ (.obj m.length :: dl) (m ++ [.ins C []]) Q := by
  have hf : fr [m.length] (m ++ [Ob.ins C []]).length = (m.length + ·) := by
    funext j
    rw [List.length_append]
    exact fr_one _ _
  refine ⟨[m.length], [.ins C []], .obj 0 :: dl, ⟨by simp, rfl, fun j k e => ?_, ?_⟩, ?_⟩
  · match j, e with
    | 0, e => cases e; exact ⟨_, rfl, by simp [Ob.ren, renKV]⟩
    | j + 1, e => simp at e
  · unfold renAll
    rw [renAll_im _ _ hi, hf]
    rfl
  · have e : (fun d ml' => [m.length].length ≤ ml'.length → Q (D.ren (fr [m.length] (m ++ [Ob.ins C []]).length) d) (over (fr [m.length] (m ++ [Ob.ins C []]).length) [m.length] (m ++ [Ob.ins C []]) ml')) =
        fun d ml' => 1 ≤ ml'.length → Q (D.ren (m.length + ·) d) (m ++ ml'.map (Ob.ren (m.length + ·))) := by
      funext d ml'
      rw [hf]
      apply propext
      have : 1 ≤ ml'.length → over (m.length + ·) [m.length] (m ++ [Ob.ins C []]) ml' = m ++ ml'.map (Ob.ren (m.length + ·)) := fun hl => by
        cases ml' with
        | nil => simp at hl
        | cons ob r =>
          unfold over
          unfold over
          rw [List.set_append_right _ _ (Nat.le_refl _), Nat.sub_self]
          simp
      exact ⟨fun z hl => this hl ▸ z hl, fun z hl => (this hl).symm ▸ z hl⟩
    rw [e]; exact h
end VL

namespace VL
open PySem PySem.Spec PyProof.Rows L2

/-! ## texts by their signs -/
def mkS (l : List Nat) : Str := ⟨l.toArray⟩
abbrev dS (l : List Nat) : D := .str (mkS l)
theorem mkS_inj {a b : List Nat} (h : mkS a = mkS b) : a = b := by
  have := congrArg (fun s : Str => s.cps.toList) h
  simpa [mkS] using this
theorem mkS_eq {a b : List Nat} : mkS a = mkS b ↔ a = b := ⟨mkS_inj, fun h => h ▸ rfl⟩
theorem mkS_of (s : Str) : mkS s.cps.toList = s := by cases s; simp [mkS]
theorem mkS_app (a b : List Nat) : mkS a ++ mkS b = mkS (a ++ b) := by
  show Str.mk (a.toArray ++ b.toArray) = Str.mk (a ++ b).toArray
  simp
theorem mkS_len (a : List Nat) : (mkS a).length = a.length := by simp [mkS, Str.length]
theorem mkS_one (c : Nat) : (⟨#[c]⟩ : Str) = mkS [c] := rfl
theorem mkS_cps (a : List Nat) : (mkS a).cps.toList = a := by simp [mkS]
theorem mkS_items (a : List Nat) : ((mkS a).cps.toList.map fun c => D.str ⟨#[c]⟩) = a.map fun c => dS [c] := by rw [mkS_cps]; rfl
def cutN {α : Type} (l : List α) (lo hi : Option Int) : List α := (l.drop (HT.sIx l.length 0 lo)).take (HT.sIx l.length l.length hi - HT.sIx l.length 0 lo)
theorem mkS_cut (l : List Nat) (lo hi : Option Int) : cutS (mkS l) lo hi = mkS (cutN l lo hi) := by
  unfold cutS cutN mkS
  simp [Str.length]
theorem mkS_ljust (l : List Nat) (n : Nat) (c : Nat) : Txt.ljustF (mkS l) (n : Int) c = mkS (l ++ List.replicate (n - l.length) c) := by
  unfold Txt.ljustF
  rw [mkS_len]
  by_cases h : (n : Int) ≤ l.length
  · rw [if_pos h, show n - l.length = 0 by omega]; simp
  · rw [if_neg h]
    unfold PySem.Builtin.Str.padded mkS
    simp
theorem mkS_mul (l : List Nat) (n : Nat) : Txt.mul (mkS l) (n : Int) = mkS (List.replicate n l).flatten := by
  unfold Txt.mul
  by_cases h : (n : Int) < 1
  · rw [if_pos h]
    have : n = 0 := by omega
    subst this; rfl
  · rw [if_neg h]
    by_cases h2 : ((n : Int) == 1 || (mkS l).length == 0) = true
    · rw [if_pos h2]
      rw [mkS_len] at h2
      rcases Bool.or_eq_true .. ▸ h2 with h3 | h3
      · have : n = 1 := by have := beq_iff_eq.mp h3; omega
        subst this; simp
      · have : l = [] := List.eq_nil_of_length_eq_zero (beq_iff_eq.mp h3)
        subst this; simp
    · rw [if_neg h2]
      show Str.mk _ = Str.mk _
      congr 1
      have key : ∀ (k : Nat) (acc : List Nat), (List.replicate k l.toArray).foldl (· ++ ·) acc.toArray = (acc ++ (List.replicate k l).flatten).toArray := by
        intro k
        induction k with
        | zero => intro acc; simp
        | succ k ih =>
          intro acc
          rw [List.replicate_succ, List.foldl_cons, List.append_toArray, ih, List.replicate_succ, List.flatten_cons, List.append_assoc]
      have := key n []
      simpa [mkS] using this
theorem mkS_join (ls : List (List Nat)) : Txt.join (mkS []) (ls.map mkS) = mkS ls.flatten := by
  unfold Txt.join PySem.Builtin.Str.glued
  cases ls with
  | nil => rfl
  | cons a r =>
    show Str.mk _ = Str.mk _
    congr 1
    have key : ∀ (r : List (List Nat)) (acc : List Nat), (r.map mkS).foldl (fun acc p => acc ++ (mkS []).cps ++ p.cps) acc.toArray = (acc ++ r.flatten).toArray := by
      intro r
      induction r with
      | nil => intro acc; simp
      | cons b r ih =>
        intro acc
        rw [List.map_cons, List.foldl_cons]
        have : acc.toArray ++ (mkS []).cps ++ (mkS b).cps = (acc ++ b).toArray := by simp [mkS]
        rw [this, ih]; simp
    exact key r a

/-! ## the deck -/
def dk (cells : List Int) (c : Int) : List Ob := [.lst (cells.map D.int), .lst [.obj 0, .int c]]
structure DkOk (cells : List Int) (c : Int) : Prop where
  nn : ∀ x ∈ cells, (0 : Int) ≤ x
  len : cells.length ≤ 63
  cn : 0 ≤ c
def dkMost : Int := 1099511627776
/-- a def that draws: at most n numbers -/
def drawV {α : Type} (f : α → D) (pre : List D → Prop) (n : Int) (post : List D → α → Prop) : VSp := fun dl ms R => ∃ cells c dl', dl = .obj 1 :: dl' ∧ ms = dk cells c ∧ DkOk cells c ∧ c + n ≤ dkMost ∧ pre dl' ∧
  ∀ a cells' c', DkOk cells' c' → c ≤ c' → c' ≤ c + n → post dl' a → R (f a) (dk cells' c')
theorem ints_ren (f : Nat → Nat) (l : List Int) : renAll f (l.map D.int) = l.map D.int := renAll_im f _ (im_ints l)
theorem lst_ren (f : Nat → Nat) (ds : List D) : (Ob.lst ds).ren f = .lst (renAll f ds) := rfl
theorem fr_dk {cells : List Int} {c : Int} {rest : List Ob} {dl : List D} (h : imAll dl = true) : Fr (dk cells c ++ rest) (.obj 1 :: dl) [0, 1] (dk cells c) (.obj 1 :: dl) where
  nd := by decide
  len := rfl
  at_ := fun j k e => by
    match j, e with
    | 0, e => cases e; exact ⟨_, rfl, by rw [lst_ren, ints_ren]; rfl⟩
    | 1, e => cases e; exact ⟨_, rfl, rfl⟩
    | j + 2, e => cases e
  args := by unfold renAll; rw [renAll_im _ _ h]; rfl
theorem over_dk {cells cells' : List Int} {c c' : Int} {rest : List Ob} {n : Nat} : over (fr [0, 1] n) [0, 1] (dk cells c ++ rest) (dk cells' c') = dk cells' c' ++ rest := by
  show over (fr [0, 1] n) [] _ [] = _
  unfold over
  simp only [List.map_nil, List.append_nil]
  show (Ob.ren _ _) :: (Ob.ren _ _) :: rest = _
  rw [lst_ren, lst_ren, ints_ren]
  rfl
theorem callF_dk {α : Type} {f : α → D} {pre : List D → Prop} {n : Int} {post : List D → α → Prop} {cells : List Int} {c : Int} {rest : List Ob} {dl : List D} {Q : D → List Ob → Prop} (hi : imAll dl = true) (hk : DkOk cells c) (hn : c + n ≤ dkMost) (hp : pre dl)
    (q : ∀ a cells' c', DkOk cells' c' → c ≤ c' → c' ≤ c + n → post dl a → (f a).im = true ∧ Q (f a) (dk cells' c' ++ rest)) : CallF (drawV f pre n post) (.obj 1 :: dl) (dk cells c ++ rest) Q :=
  ⟨[0, 1], dk cells c, _, fr_dk hi, cells, c, dl, rfl, rfl, hk, hn, hp, fun v cells' c' h1 h2 h3 h4 _ => by
    obtain ⟨hv, q⟩ := q v cells' c' h1 h2 h3 h4
    rw [ren_im _ _ hv, over_dk]; exact q⟩
section
variable {α : Type} {f : α → D} {X : Cx} {B : Bs} {ds : List (Option D)} {ms : List Ob} {Q : D → List Ob → Prop} {pos : Pos} {k : Nat} {x : Str} {ps : List Str} {pre : List D → Prop} {n : Int} {post : List D → α → Prop}
/-- the call of a def that draws -/
theorem we_callW {xp : Pos} {e : Expr} {es : List Expr} (G : Dc X.prog X.w X.K X.mg X.base k x ps (drawV f pre n post)) (hr : Room k X.A) (hgd : X.A.guards = some []) (hg : Gl X x)
    (h : WA X B ds ms (e :: es) fun dl m => ∃ cells c rest dl', dl = .obj 1 :: dl' ∧ m = dk cells c ++ rest ∧ DkOk cells c ∧ imAll dl' = true ∧ c + n ≤ dkMost ∧ pre dl' ∧ ∀ a cells' c', DkOk cells' c' → c ≤ c' → c' ≤ c + n → post dl' a → (f a).im = true ∧ Q (f a) (dk cells' c' ++ rest))
    (hdb : (x == ("__debug__" : Str)) = false := by decide) (he : starEach (e :: es) X.env = (false, eval e X.env) :: starEach es X.env := by rfl) (hpl : (backTo pos (starEach es X.env)).any (·.1) = false := by rfl) :
    WE X B ds ms (.Call (.Name x xp) (e :: es) [] pos) Q :=
  we_callD G hr hgd hg (WA.imp h fun d m ⟨cells, c, rest, dl', e1, e2, a, b, hn, p, q⟩ => by subst e1; subst e2; exact callF_dk b a hn p q) hdb he hpl
end
/-- one of the items of a list -/
def oneLV : VSp := fun dl ms R => ∃ cells c items, dl = [.obj 1, .obj 2] ∧ ms = dk cells c ++ [.lst items] ∧ DkOk cells c ∧ c + 1 ≤ dkMost ∧ items ≠ [] ∧ items.length ≤ 1000000 ∧
  ∀ v cells' c', DkOk cells' c' → c ≤ c' → c' ≤ c + 1 → v ∈ items → R v (dk cells' c' ++ [.lst items])
theorem fr_dk3 {cells : List Int} {c : Int} {rest : List Ob} {k : Nat} {items : List D} (hi : imAll items = true) (h : (dk cells c ++ rest)[k]? = some (.lst items)) (h2 : 2 ≤ k) : Fr (dk cells c ++ rest) [.obj 1, .obj k] [0, 1, k] (dk cells c ++ [.lst items]) [.obj 1, .obj 2] where
  nd := by
    refine List.nodup_cons.mpr ⟨?_, List.nodup_cons.mpr ⟨?_, by simp⟩⟩
    · intro z
      rcases List.mem_cons.mp z with z | z
      · cases z
      · have := List.mem_singleton.mp z; omega
    · intro z
      have := List.mem_singleton.mp z; omega
  len := rfl
  at_ := fun j i e => by
    match j, e with
    | 0, e => cases e; exact ⟨_, rfl, by rw [lst_ren, ints_ren]; rfl⟩
    | 1, e => cases e; exact ⟨_, rfl, rfl⟩
    | 2, e => cases e; exact ⟨.lst items, rfl, by rw [h, lst_ren, renAll_im _ _ hi]⟩
    | j + 3, e => cases e
  args := rfl
theorem set_self {α : Type} {l : List α} {k : Nat} {x : α} (h : l[k]? = some x) : l.set k x = l := by
  apply List.ext_getElem?
  intro i
  by_cases e : i = k
  · subst e
    rw [List.getElem?_set_self (List.getElem?_eq_some_iff.mp h).1, h]
  · rw [List.getElem?_set_ne (Ne.symm e)]
theorem over_dk3 {cells cells' : List Int} {c c' : Int} {rest : List Ob} {k : Nat} {items : List D} {n : Nat} (hi : imAll items = true) (h : (dk cells c ++ rest)[k]? = some (.lst items)) (h2 : 2 ≤ k) :
    over (fr [0, 1, k] n) [0, 1, k] (dk cells c ++ rest) (dk cells' c' ++ [.lst items]) = dk cells' c' ++ rest := by
  show over (fr [0, 1, k] n) [] _ [] = _
  unfold over
  simp only [List.map_nil, List.append_nil]
  show (((Ob.ren _ _) :: (Ob.ren _ _) :: rest).set k (Ob.ren _ (.lst items))) = _
  have e1 : (Ob.ren (fr [0, 1, k] n) (.lst items)) = .lst items := by rw [lst_ren, renAll_im _ _ hi]
  have e2 : Ob.ren (fr [0, 1, k] n) (.lst (cells'.map D.int)) = .lst (cells'.map D.int) := by rw [lst_ren, ints_ren]
  have e3 : Ob.ren (fr [0, 1, k] n) (.lst [.obj 0, .int c']) = .lst [.obj 0, .int c'] := rfl
  rw [e1, e2, e3]
  obtain ⟨j, rfl⟩ : ∃ j, k = j + 2 := ⟨k - 2, by omega⟩
  have h' : rest[j]? = some (.lst items) := h
  show _ :: _ :: rest.set j _ = _
  rw [set_self h']
  rfl
section
variable {X : Cx} {B : Bs} {ds : List (Option D)} {ms : List Ob} {Q : D → List Ob → Prop} {pos : Pos} {k : Nat} {x : Str} {ps : List Str}
theorem we_oneL {α : Type} {xp : Pos} {e : Expr} {es : List Expr} (G : Dc X.prog X.w X.K X.mg X.base k x ps oneLV) (hr : Room k X.A) (hgd : X.A.guards = some []) (hg : Gl X x)
    (h : WA X B ds ms (e :: es) fun dl m => ∃ (cells : List Int) (c : Int) (rest : List Ob) (j : Nat) (xs : List α) (f : α → D), dl = [.obj 1, .obj j] ∧ m = dk cells c ++ rest ∧ DkOk cells c ∧ m[j]? = some (.lst (xs.map f)) ∧ 2 ≤ j ∧ imAll (xs.map f) = true ∧ c + 1 ≤ dkMost ∧ xs ≠ [] ∧ xs.length ≤ 1000000 ∧
      ∀ a cells' c', DkOk cells' c' → c ≤ c' → c' ≤ c + 1 → a ∈ xs → Q (f a) (dk cells' c' ++ rest))
    (hdb : (x == ("__debug__" : Str)) = false := by decide) (he : starEach (e :: es) X.env = (false, eval e X.env) :: starEach es X.env := by rfl) (hpl : (backTo pos (starEach es X.env)).any (·.1) = false := by rfl) :
    WE X B ds ms (.Call (.Name x xp) (e :: es) [] pos) Q :=
  we_callD G hr hgd hg (WA.imp h fun d m ⟨cells, c, rest, j, xs, f, e1, e2, a, hj, h2, hi, hn, hne, hl, q⟩ => by
    subst e1; subst e2
    exact ⟨[0, 1, j], _, _, fr_dk3 hi hj h2, cells, c, xs.map f, rfl, rfl, a, hn, fun z => hne (List.map_eq_nil_iff.mp z), by rw [List.length_map]; exact hl, fun v cells' c' h1 h2' h3 h4 _ => by
      rw [ren_im _ _ (imAll_iff.mp hi v h4), over_dk3 hi hj h2]
      obtain ⟨b, hb, rfl⟩ := List.mem_map.mp h4
      exact q b cells' c' h1 h2' h3 hb⟩) hdb he hpl
end
theorem wss_mid {X : Cx} {B : Bs} {fl : Nat} {ds : List (Option D)} {ms : List Ob} {st : Stmt} {rest : List Stmt} {E : En} (Mid : List (Option D) → List Ob → Prop) (h1 : WS X B fl ds ms st { E with nx := Mid }) (h2 : ∀ ds' ms', Mid ds' ms' → WSs X B fl ds' ms' rest E) : WSs X B fl ds ms (st :: rest) E :=
  wss_cons <| .mk fun σ H θ hf S L => (h1 σ H θ hf S L).imp (fun _ _ z => nxOf.imp h2 z) (fun _ _ z => z) (fun _ _ z => z) (fun _ _ z => z)
/-! ## what the laws' own helpers promise -/
def deckP : VSp := fun dl ms R => ∃ ns : List Int, ns.length ≤ 63 ∧ dl = [.rol (ns.map D.int)] ∧ ms = [] ∧ ∀ cells, DkOk cells 0 → R (.obj 1) (dk cells 0)
theorem len_deckP : ∀ dl ms R, deckP dl ms R → dl.length = 1 := by rintro dl ms R ⟨ns, _, rfl, _⟩; rfl
def drawP : VSp := drawV D.int (fun dl => ∃ most : Int, dl = [.int most] ∧ 0 < most ∧ most ≤ 1000000000000000000000000000000000000000) 1 (fun dl (k : Int) => ∀ most, dl = [.int most] → 0 ≤ k ∧ k < most)
theorem len_drawP : ∀ dl ms R, drawP dl ms R → dl.length = 2 := by rintro dl ms R ⟨cells, c, dl', rfl, _, _, _, ⟨most, rfl, _⟩, _⟩; rfl
theorem divw {i m : Int} (h0 : 0 < m) (h1 : m ≤ 1000000000000000000000000000000000000000) : CDivW i m := ⟨h0, by
  have hne : m.natAbs ≠ 0 := by omega
  have h2 : m.natAbs < 2 ^ 130 := by
    have : (2 : Nat) ^ 130 = 1361129467683753853853498429727072845824 := by decide
    omega
  have := (Nat.log2_lt hne).mpr h2
  omega⟩
def oneSV : VSp := drawV (fun a : Nat => dS [a]) (fun dl => ∃ l, dl = [dS l] ∧ l ≠ [] ∧ l.length ≤ 1000000) 1 (fun dl a => ∀ l, dl = [dS l] → a ∈ l)
def oneTV : VSp := drawV (fun d : D => d) (fun dl => ∃ items, dl = [.tup items] ∧ imAll items = true ∧ items ≠ [] ∧ items.length ≤ 1000000) 1 (fun dl a => ∀ items, dl = [.tup items] → a ∈ items)
def oneP : VSp := fun dl ms R => oneLV dl ms R ∨ oneSV dl ms R ∨ oneTV dl ms R
theorem len_oneP : ∀ dl ms R, oneP dl ms R → dl.length = 2 := by
  rintro dl ms R (h | h | h)
  · obtain ⟨cells, c, items, rfl, _⟩ := h; rfl
  · obtain ⟨cells, c, dl', rfl, _, _, _, ⟨l, rfl, _⟩, _⟩ := h; rfl
  · obtain ⟨cells, c, dl', rfl, _, _, _, ⟨l, rfl, _⟩, _⟩ := h; rfl
theorem atI_pick {α : Type} {xs : List α} {k : Int} (h : 0 ≤ k ∧ k < xs.length) : atI xs k = some (xs.get ⟨k.toNat, by omega⟩) := by
  unfold atI ixN
  rw [if_pos h.1, if_pos h.2]
  show xs[k.toNat]? = _
  rw [List.getElem?_eq_getElem (by omega : k.toNat < xs.length)]; rfl
/-- [draw for x in xs] -/
theorem lc_draw {α β : Type} {X : Cx} {ds : List (Option D)} {scope : Scope} {vs : List Nat} {app : D → List (Option D) → Option (List (Option D))} {elt : Expr} {G : List Ob → Prop} {m : List Ob} {Q : D → List Ob → Prop} {items : List D} {cells : List Int} {c : Int} (rest : List Ob) (xs : List α) (e : α → D) (f : β → D) (n : Nat) (Pr : α → β → Prop) (hi : items = xs.map e)
    (hm : m = dk cells c ++ rest) (ok : DkOk cells c) (hn : c + n * xs.length ≤ dkMost) (hz : xs.length ≤ sizeLine) (hG : ∀ cells' c', G (dk cells' c' ++ rest))
    (step : ∀ a ∈ xs, ∃ ds', app (e a) (wipeD ds vs) = some ds' ∧ ∀ cells' c', DkOk cells' c' → c ≤ c' → c' + n ≤ dkMost → ∀ (B : Bs) (s : Shared) (H : Hp) (C : Addr) (cl : List (Str × Addr)) (fp : List Addr), WE (X.blk s H scope (compEnvC scope cl C X.env) fp) B ds' (dk cells' c' ++ rest) elt fun y m4 => ∃ b cells2 c2, y = f b ∧ DkOk cells2 c2 ∧ c' ≤ c2 ∧ c2 ≤ c' + n ∧ Pr a b ∧ m4 = dk cells2 c2 ++ rest)
    (q : ∀ (bs : List β) (cells' : List Int) (c' : Int), bs.length = xs.length → (∀ (i : Nat) a b, xs[i]? = some a → bs[i]? = some b → Pr a b) → DkOk cells' c' → c ≤ c' → c' ≤ c + n * xs.length → Q (.obj (dk cells' c' ++ rest).length) (dk cells' c' ++ rest ++ [.lst (bs.map f)])) : LcWord X ds scope vs app [] elt items G m Q := by
  subst hi; subst hm
  refine ⟨fun i acc m' => ∃ (bs : List β) (cells' : List Int) (c' : Int), bs.length = i ∧ (∀ (j : Nat) a b, xs[j]? = some a → bs[j]? = some b → Pr a b) ∧ DkOk cells' c' ∧ c ≤ c' ∧ c' ≤ c + n * i ∧ acc = bs.map f ∧ m' = dk cells' c' ++ rest,
    ⟨[], cells, c, rfl, fun j a b _ h => by simp at h, ok, Int.le_refl _, by simp, rfl, rfl⟩, fun i acc m' ⟨bs, cells', c', _, _, _, _, _, _, h⟩ => h ▸ hG cells' c', fun i d acc m' hi h => ?_, fun acc m' h => ?_⟩
  · obtain ⟨bs, cells', c', hl, hP, ok', h1, h2, ha, rfl⟩ := h
    rw [List.getElem?_map] at hi
    obtain ⟨a, ea, rfl⟩ := Option.map_eq_some_iff.mp hi
    have hlt : i < xs.length := (List.getElem?_eq_some_iff.mp ea).1
    have hmul : (n : Int) * i + n ≤ n * xs.length := by
      have : (n : Int) * i + n = n * (i + 1 : Nat) := by rw [Int.natCast_add, Int.mul_add]; simp
      rw [this]
      exact Int.mul_le_mul_of_nonneg_left (by omega) (by omega)
    obtain ⟨ds', e1, st⟩ := step a (List.mem_of_getElem? ea)
    refine ⟨by rw [ha, List.length_map, hl]; omega, ds', e1, fun B s H C cl fp => ⟨fun _ s H C cl fp => ?_, fun h => by cases h⟩⟩
    refine we_imp (st cells' c' ok' h1 (by omega) B s H C cl fp) fun y m4 ⟨b, cells2, c2, ey, ok2, g1, g2, hb, em⟩ => .inl ⟨bs ++ [b], cells2, c2, by rw [List.length_append, hl]; rfl, fun j a' b' g3 g4 => ?_, ok2, by omega, ?_, by rw [ha, ey, List.map_append]; rfl, em⟩
    · by_cases hj : j < bs.length
      · rw [List.getElem?_append_left hj] at g4
        exact hP j a' b' g3 g4
      · rw [List.getElem?_append_right (by omega)] at g4
        have : j - bs.length = 0 := by
          have := (List.getElem?_eq_some_iff.mp g4).1
          simp at this; omega
        have hj' : j = i := by omega
        subst hj'
        rw [this] at g4
        rw [ea] at g3
        cases g3; cases g4
        exact hb
    · have : (n : Int) * ((i + 1 : Nat) : Int) = n * i + n := by rw [Int.natCast_add, Int.mul_add]; simp
      rw [this]; omega
  · obtain ⟨bs, cells', c', hl, hP, ok', h1, h2, rfl, rfl⟩ := h
    rw [List.length_map] at hl h2
    exact q bs cells' c' hl hP ok' h1 h2
/-- a def that draws, by its body -/
theorem fr_dkR {cells : List Int} {c : Int} {rest : List Ob} {d : D} (h : d.im = true) : Fr (dk cells c ++ rest) [d] [0, 1] (dk cells c) [d] := by
  have F := fr_dk (cells := cells) (c := c) (rest := rest) (dl := []) rfl
  exact ⟨F.nd, F.len, F.at_, by unfold renAll; rw [ren_im _ _ h]; rfl⟩
section
variable {P : Program} {w : World} {K : PySem.W.Frag} {mg : Str → Option Value} {base : Heap}
theorem vfnW {α : Type} {f0 : α → D} {pre : List D → Prop} {n : Int} {post : List D → α → Prop} {x qual : Str} {st : Stmt} {f : Addr} {fd : FuncData} {N ps : List Str} {k : Nat} (F : Fun K x qual st f fd) (S : FnScope N ps (defScope st)) (len : ∀ dl ms R, drawV f0 pre n post dl ms R → dl.length = ps.length)
    (body : ∀ (cdv : Value) (A : Around) (outer : List Env) (s : Shared) (H : Hp), Room k (A.deeper (envOfC qual (defScope st) s.heap.objs.size f cdv)) → (A.deeper (envOfC qual (defScope st) s.heap.objs.size f cdv)).guards = some [] → ∀ (B : Bs) (cells : List Int) (c : Int) (dl' : List D), DkOk cells c → c + n ≤ dkMost → pre dl' →
      WSs (cxOf CX0 P w K mg base N qual (defScope st) f cdv A outer s H E0).nox B 2 (startD N.length (.obj 1 :: dl')) (dk cells c) (defBody st) ⟨fun _ _ => False, fun d m => ∃ a cells' c' rest, d = f0 a ∧ (f0 a).im = true ∧ DkOk cells' c' ∧ c ≤ c' ∧ c' ≤ c + n ∧ post dl' a ∧ m = dk cells' c' ++ rest, fun _ _ => False, fun _ _ => False⟩) : FnG P w K mg base (k + 1) f fd ps (spOf K (drawV f0 pre n post)) := by
  refine vfn F S len (fun cdv A outer s H hr hgd B dl ms R h => ?_)
  obtain ⟨cells, c, dl', rfl, rfl, ok, hc, hp, q⟩ := h
  refine wss_ret (fun d m => ∃ a cells' c' rest, d = f0 a ∧ (f0 a).im = true ∧ DkOk cells' c' ∧ c ≤ c' ∧ c' ≤ c + n ∧ post dl' a ∧ m = dk cells' c' ++ rest) (fun d m h => ?_) ?_
  · obtain ⟨a, cells', c', rest, rfl, hi, ok', h1, h2, hpo, rfl⟩ := h
    exact ⟨[0, 1], dk cells' c', f0 a, fr_dkR hi, fun j (hj : j < 2) => by
      match j, hj with
      | 0, _ => rfl
      | 1, _ => rfl, q a cells' c' ok' h1 h2 hpo⟩
  · exact .mk fun σ H1 θ hf S L => (body cdv A outer s H hr hgd B cells c dl' ok hc hp σ H1 θ hf S L).imp (fun _ _ z => by obtain ⟨_, _, _, _, _, _, _, z⟩ := z; exact z.elim) (fun _ _ z => z) (fun _ _ z => z) (fun _ _ z => z)
end
theorem gD {a b : List Int} {c d : Int} {r : List Ob} {x : Ob} : (dk a c ++ (r ++ [x]))[(dk b d ++ r).length]? = some x := by simp [dk]
theorem callF_deck {ns : List Int} {Q : D → List Ob → Prop} (hl : ns.length ≤ 63) (q : ∀ cells, DkOk cells 0 → Q (.obj 1) (dk cells 0)) : CallF deckP [.rol (ns.map D.int)] [] Q :=
  ⟨[], [], [.rol (ns.map D.int)], Fr.none (by unfold imAll; rw [show (D.rol (ns.map D.int)).im = imAll (ns.map D.int) from rfl, im_ints]; rfl), ns, hl, rfl, rfl, fun cells ok _ => by
    have e : over (fr [] ([] : List Ob).length) [] [] (dk cells 0) = dk cells 0 := by
      show [Ob.ren _ _, Ob.ren _ _] = _
      rw [lst_ren, lst_ren, ints_ren]; rfl
    rw [e]; exact q cells ok⟩
theorem gK {a : List Int} {c : Int} {r : List Ob} {j : Nat} {x : Ob} (h : r[j]? = some x) : (dk a c ++ r)[j + 2]? = some x := h
end VL

namespace VL
open PySem PySem.Spec PyProof.Rows L2

/-! ## comparisons -/
structure Cmp where
  L : Nat
  rows : List (List Nat)
  marks : List Int
def rowD (r : List Nat) : D := .tup (r.map fun n => .int (n : Nat))
def Cmp.d (c : Cmp) : D := .tup [.int c.L, .tup (c.rows.map rowD), .tup (c.marks.map D.int)]
structure Cmp.Ok (c : Cmp) : Prop where
  l1 : 1 ≤ c.L
  l3 : c.L ≤ 3
  ne : c.rows ≠ []
  wid : ∀ r ∈ c.rows, r.length = (c.L + 1) * (c.L + 1) - 1
  in_ : ∀ r ∈ c.rows, ∀ n ∈ r, n < c.rows.length
  mkl : c.marks.length = c.rows.length
  sz : c.rows.length ≤ 4096
  mr : ∀ v ∈ c.marks, -1 ≤ v ∧ v ≤ 1
def ltr (L : Nat) : List Nat := [97, 98, 99].take L
def sgn (L : Nat) : List Nat := ltr L ++ [46]
def colsN (L : Nat) : List (List Nat) := ((sgn L).flatMap fun a => (sgn L).map fun b => [a, b]).dropLast
theorem lcase {L : Nat} (h1 : 1 ≤ L) (h3 : L ≤ 3) : L = 1 ∨ L = 2 ∨ L = 3 := by omega
def sIdx (L a : Nat) : Nat := (sgn L).idxOf a
def colN (L a b : Nat) : Nat := sIdx L a * (L + 1) + sIdx L b
theorem im_dS (l : List (List Nat)) : imAll (l.map dS) = true := imAll_iff.mpr fun d hd => by
  obtain ⟨i, _, rfl⟩ := List.mem_map.mp hd; rfl
theorem im_row (r : List Nat) : (rowD r).im = true := by
  unfold rowD D.im
  exact imAll_iff.mpr fun d hd => by obtain ⟨i, _, rfl⟩ := List.mem_map.mp hd; rfl
theorem im_rows (rs : List (List Nat)) : imAll (rs.map rowD) = true := imAll_iff.mpr fun d hd => by
  obtain ⟨i, _, rfl⟩ := List.mem_map.mp hd; exact im_row i
theorem Cmp.im (c : Cmp) : c.d.im = true := by
  show (true && (imAll (c.rows.map rowD) && (imAll (c.marks.map D.int) && true))) = true
  rw [im_rows, im_ints]; rfl
theorem getE_map {α β : Type} {f : α → β} {l : List α} {i : Nat} {d : β} (h : (l.map f)[i]? = some d) : ∃ a, l[i]? = some a ∧ d = f a := by
  rw [List.getElem?_map] at h
  obtain ⟨a, h1, h2⟩ := Option.map_eq_some_iff.mp h
  exact ⟨a, h1, h2.symm⟩
theorem getE_str {l : List Nat} {i : Nat} {d : D} (h : ((mkS l).cps.toList.map fun c => D.str ⟨#[c]⟩)[i]? = some d) : ∃ a, l[i]? = some a ∧ d = dS [a] := by
  rw [mkS_items] at h
  exact getE_map h
theorem flatMap_take_succ {α β : Type} {l : List α} {i : Nat} {a : α} (f : α → List β) (h : l[i]? = some a) : (l.take (i + 1)).flatMap f = (l.take i).flatMap f ++ f a := by
  rw [List.take_succ, h, List.flatMap_append]; simp
theorem map_take_succ {α β : Type} {l : List α} {i : Nat} {a : α} (f : α → β) (h : l[i]? = some a) : (l.take (i + 1)).map f = (l.take i).map f ++ [f a] := by
  rw [List.take_succ, h, List.map_append]; simp
theorem sgn_len {L : Nat} (h : L ≤ 3) : (sgn L).length = L + 1 := by
  unfold sgn ltr; simp; omega
theorem cutN_init {α : Type} (l : List α) : cutN l none (some (-1)) = l.dropLast := by
  unfold cutN
  rw [List.dropLast_eq_take]
  show (l.drop 0).take (HT.sIx l.length l.length (some (-1)) - 0) = _
  rw [List.drop_zero]
  congr 1
  show (if (-1 : Int) < 0 then ((-1 : Int) + (l.length : Int)).toNat else min (-1 : Int).toNat l.length) - 0 = _
  rw [if_pos (by decide)]; omega
theorem cutD_eq (xs : List D) (lo hi : Option Int) : cutD xs lo hi = cutN xs lo hi := rfl
theorem cutN_from {α : Type} (l : List α) (k : Nat) : cutN l (some (k : Int)) none = l.drop k := by
  unfold cutN
  rw [HT.sIx_nat, HT.sIx_none]
  by_cases h : k ≤ l.length
  · rw [Nat.min_eq_left h, List.take_of_length_le (by rw [List.length_drop]; omega)]
  · rw [Nat.min_eq_right (by omega), List.drop_eq_nil_of_le (Nat.le_refl _), List.drop_eq_nil_of_le (by omega : l.length ≤ k)]; simp
theorem cutN_to {α : Type} (l : List α) (k : Nat) : cutN l none (some (k : Int)) = l.take k := by
  unfold cutN
  rw [HT.sIx_nat, HT.sIx_none, List.drop_zero]
  by_cases h : k ≤ l.length
  · rw [Nat.min_eq_left h]; rfl
  · rw [Nat.min_eq_right (by omega), List.take_of_length_le (by omega), List.take_of_length_le (by omega)]
theorem cutN_both {α : Type} (l : List α) (j k : Nat) : cutN l (some (j : Int)) (some (k : Int)) = (l.drop j).take (k - j) := by
  unfold cutN
  rw [HT.sIx_nat, HT.sIx_nat]
  by_cases h : j ≤ l.length
  · rw [Nat.min_eq_left h]
    by_cases h2 : k ≤ l.length
    · rw [Nat.min_eq_left h2]
    · rw [Nat.min_eq_right (by omega), List.take_of_length_le (by rw [List.length_drop]; omega), List.take_of_length_le (by rw [List.length_drop]; omega)]
  · rw [Nat.min_eq_right (by omega : l.length ≤ j), List.drop_eq_nil_of_le (Nat.le_refl _), List.drop_eq_nil_of_le (by omega : l.length ≤ j)]; simp
/-- the state behind a column -/
def stepN (c : Cmp) (s a b : Nat) : Nat := (c.rows.getD s []).getD (colN c.L a b) 0
def nextN (c : Cmp) (s a b : Nat) : Nat := if a = 46 ∧ b = 46 then s else stepN c s a b
/-- the state behind the first i columns of two words -/
def runN (c : Cmp) (x y : List Nat) : Nat → Nat
  | 0 => 0
  | i + 1 => stepN c (runN c x y i) (x.getD i 46) (y.getD i 46)
def readN (c : Cmp) (x y : List Nat) : Nat := runN c x y (max x.length y.length)
def tellN (c : Cmp) (x y : List Nat) : Int := c.marks.getD (readN c x y) 0
def Wd (L : Nat) (x : List Nat) : Prop := ∀ a ∈ x, a ∈ ltr L
theorem col_lt {L a b : Nat} (h1 : 1 ≤ L) (h3 : L ≤ 3) (ha : a ∈ sgn L) (hb : b ∈ sgn L) (hn : ¬ (a = 46 ∧ b = 46)) : colN L a b < (L + 1) * (L + 1) - 1 := by
  have key : ∀ L ∈ [1, 2, 3], ∀ a ∈ sgn L, ∀ b ∈ sgn L, ¬ (a = 46 ∧ b = 46) → colN L a b < (L + 1) * (L + 1) - 1 := by decide +kernel
  exact key L (by rcases lcase h1 h3 with rfl | rfl | rfl <;> simp) a ha b hb hn
theorem col_at {L a b : Nat} (h1 : 1 ≤ L) (h3 : L ≤ 3) (ha : a ∈ sgn L) (hb : b ∈ sgn L) (hn : ¬ (a = 46 ∧ b = 46)) : (colsN L)[colN L a b]? = some [a, b] := by
  have key : ∀ L ∈ [1, 2, 3], ∀ a ∈ sgn L, ∀ b ∈ sgn L, ¬ (a = 46 ∧ b = 46) → (colsN L)[colN L a b]? = some [a, b] := by decide +kernel
  exact key L (by rcases lcase h1 h3 with rfl | rfl | rfl <;> simp) a ha b hb hn
theorem cols_nodup {L : Nat} (h1 : 1 ≤ L) (h3 : L ≤ 3) : (colsN L).Nodup := by
  rcases lcase h1 h3 with rfl | rfl | rfl <;> decide +kernel
theorem cols_len {L : Nat} (h1 : 1 ≤ L) (h3 : L ≤ 3) : (colsN L).length = (L + 1) * (L + 1) - 1 := by
  rcases lcase h1 h3 with rfl | rfl | rfl <;> decide +kernel
theorem sgn_end (L : Nat) : 46 ∈ sgn L := by unfold sgn; simp
theorem Wd.at_ {L : Nat} {x : List Nat} (h : Wd L x) (i : Nat) : x.getD i 46 ∈ sgn L := by
  rw [List.getD_eq_getElem?_getD]
  cases e : x[i]? with
  | none => exact sgn_end L
  | some a => exact List.mem_append_left _ (h a (List.mem_of_getElem? e))
theorem ltr_ne {L a : Nat} (h : a ∈ ltr L) : a ≠ 46 := by
  unfold ltr at h
  have := List.mem_of_mem_take h
  simp at this; omega
theorem Wd.not_end {L : Nat} {x : List Nat} (h : Wd L x) {i : Nat} (hi : i < x.length) : x.getD i 46 ≠ 46 := by
  rw [List.getD_eq_getElem?_getD, List.getElem?_eq_getElem hi]
  exact ltr_ne (h _ (List.getElem_mem hi))
theorem both_end {L : Nat} {x y : List Nat} (hx : Wd L x) (hy : Wd L y) {i : Nat} (hi : i < max x.length y.length) : ¬ (x.getD i 46 = 46 ∧ y.getD i 46 = 46) := fun ⟨e1, e2⟩ => by
  by_cases h : i < x.length
  · exact hx.not_end h e1
  · exact hy.not_end (by omega : i < y.length) e2
theorem Cmp.Ok.row {c : Cmp} (ok : c.Ok) {s : Nat} (hs : s < c.rows.length) : ∃ r, c.rows[s]? = some r ∧ r ∈ c.rows := ⟨c.rows[s], List.getElem?_eq_getElem hs, List.getElem_mem hs⟩
theorem Cmp.Ok.step {c : Cmp} (ok : c.Ok) {s a b : Nat} (hs : s < c.rows.length) (ha : a ∈ sgn c.L) (hb : b ∈ sgn c.L) (hn : ¬ (a = 46 ∧ b = 46)) : ∃ r, c.rows[s]? = some r ∧ r[colN c.L a b]? = some (stepN c s a b) ∧ stepN c s a b < c.rows.length := by
  obtain ⟨r, e, hr⟩ := ok.row hs
  have hl : colN c.L a b < r.length := by rw [ok.wid r hr]; exact col_lt ok.l1 ok.l3 ha hb hn
  have es : stepN c s a b = r[colN c.L a b] := by
    unfold stepN
    rw [List.getD_eq_getElem?_getD, List.getD_eq_getElem?_getD, e]
    show (r[colN c.L a b]?).getD 0 = _
    rw [List.getElem?_eq_getElem hl]; rfl
  exact ⟨r, e, by rw [es]; exact List.getElem?_eq_getElem hl, by rw [es]; exact ok.in_ r hr _ (List.getElem_mem hl)⟩
theorem Cmp.Ok.run {c : Cmp} (ok : c.Ok) {x y : List Nat} (hx : Wd c.L x) (hy : Wd c.L y) : ∀ i, i ≤ max x.length y.length → runN c x y i < c.rows.length
  | 0, _ => List.length_pos_iff.mpr ok.ne
  | i + 1, h => by
    obtain ⟨r, _, _, h⟩ := ok.step (ok.run hx hy i (by omega)) (hx.at_ i) (hy.at_ i) (both_end hx hy (by omega))
    exact h
theorem Cmp.Ok.mark {c : Cmp} (ok : c.Ok) {x y : List Nat} (hx : Wd c.L x) (hy : Wd c.L y) : c.marks[readN c x y]? = some (tellN c x y) := by
  have h := ok.run hx hy _ (Nat.le_refl _)
  rw [← ok.mkl] at h
  unfold tellN readN
  rw [List.getD_eq_getElem?_getD, List.getElem?_eq_getElem h]; rfl
/-! ### places of columns -/
def spotsK (ls : List (List Nat)) (n : Nat) : List (Key × D) := match ls with
  | [] => []
  | a :: r => (.inr (mkS a), .int (n : Nat)) :: spotsK r (n + 1)
theorem spotsK_eq : ∀ (ls : List (List Nat)) (n : Nat), spotsK ls n = (ls.zipIdx n).map fun p => ((.inr (mkS p.1) : Key), D.int (p.2 : Nat))
  | [], n => rfl
  | a :: r, n => by unfold spotsK; rw [spotsK_eq r (n + 1)]; rfl
theorem spots_val {k : List Nat} : ∀ (ls : List (List Nat)) (n j : Nat), ls[j]? = some k → ls.Nodup → valD (spotsK ls n) (.inr (mkS k)) = some (.int ((n + j : Nat) : Int))
  | [], n, j, h, _ => by simp at h
  | a :: r, n, 0, h, _ => by
    have : a = k := by simpa using h
    subst this
    unfold spotsK valD
    rw [List.find?_cons_of_pos (by simp)]; rfl
  | a :: r, n, j + 1, h, nd => by
    have h' : r[j]? = some k := by simpa using h
    have hne : a ≠ k := fun e => by
      subst e
      exact (List.nodup_cons.mp nd).1 (List.mem_of_getElem? h')
    unfold spotsK valD
    rw [List.find?_cons_of_neg (by simpa using fun e => hne (mkS_inj e))]
    have := spots_val r (n + 1) j h' (List.nodup_cons.mp nd).2
    unfold valD at this
    rw [this, show n + 1 + j = n + (j + 1) by omega]
theorem spots_app (k : List Nat) : ∀ (ls : List (List Nat)) (n : Nat), spotsK (ls ++ [k]) n = spotsK ls n ++ [(.inr (mkS k), .int ((n + ls.length : Nat) : Int))]
  | [], n => rfl
  | a :: r, n => by
    show _ :: spotsK (r ++ [k]) (n + 1) = _ :: (spotsK r (n + 1) ++ _)
    rw [spots_app k r (n + 1), List.length_cons, show n + 1 + r.length = n + (r.length + 1) by omega]
theorem spots_any {k : List Nat} : ∀ (ls : List (List Nat)) (n : Nat), k ∉ ls → ((spotsK ls n).any fun kv => decide (kv.1 = .inr (mkS k))) = false
  | [], n, _ => rfl
  | a :: r, n, h => by
    unfold spotsK
    rw [List.any_cons, spots_any r (n + 1) fun z => h (List.mem_cons_of_mem _ z)]
    have : ¬ (Sum.inr (mkS a) : Key) = .inr (mkS k) := fun e => h (by rw [mkS_inj (Sum.inr.inj e)]; exact List.mem_cons_self)
    simp [this]
theorem spots_put {k : List Nat} {ls : List (List Nat)} (h : k ∉ ls) : putD (spotsK ls 0) (.inr (mkS k)) (.int (ls.length : Nat)) = spotsK (ls ++ [k]) 0 := by
  unfold putD
  rw [spots_any ls 0 h, if_neg (by decide), spots_app, Nat.zero_add]
theorem notin_take {α : Type} {l : List α} {i : Nat} {a : α} (nd : l.Nodup) (h : l[i]? = some a) : a ∉ l.take i := fun z => by
  obtain ⟨j, hj, e⟩ := List.getElem_of_mem z
  have hj' : j < i := by rw [List.length_take] at hj; omega
  obtain ⟨hi, e2⟩ := List.getElem?_eq_some_iff.mp h
  rw [List.getElem_take] at e
  have := (List.getElem_inj nd).mp (e.trans e2.symm)
  omega
theorem enum_at {xs : List D} {i : Nat} {d : D} (h : (enumD xs)[i]? = some d) : ∃ x, xs[i]? = some x ∧ d = .tup [.int (i : Nat), x] := by
  unfold enumD at h
  rw [List.getElem?_zipWith] at h
  cases e : xs[i]? with
  | none => rw [e] at h; cases e2 : (List.range xs.length)[i]? <;> rw [e2] at h <;> cases h
  | some x =>
    have hi : i < xs.length := (List.getElem?_eq_some_iff.mp e).1
    rw [e, List.getElem?_range hi] at h
    exact ⟨x, rfl, (Option.some.inj h).symm⟩
theorem enum_len (xs : List D) : (enumD xs).length = xs.length := by unfold enumD; simp
theorem pad_at (x : List Nat) (n i : Nat) (hi : i < n) (hn : x.length ≤ n) : (x ++ List.replicate (n - x.length) 46)[i]? = some (x.getD i 46) := by
  rw [List.getD_eq_getElem?_getD]
  by_cases h : i < x.length
  · rw [List.getElem?_append_left h, List.getElem?_eq_getElem h]; rfl
  · rw [List.getElem?_append_right (by omega), List.getElem?_eq_none (by omega : x.length ≤ i), List.getElem?_replicate, if_pos (by omega)]; rfl
theorem atI_nat' {α : Type} {xs : List α} {j : Nat} {a : α} (h : xs[j]? = some a) : atI xs (j : Int) = some a := atI_nat h
theorem spots_keys {ls : List (List Nat)} (nd : ls.Nodup) : (ls.zipIdx.map fun p => (.inr (mkS p.1) : Key)).Nodup := by
  have : (ls.zipIdx.map fun p => (.inr (mkS p.1) : Key)) = ls.map fun a => (.inr (mkS a) : Key) := by
    have h := List.map_map (f := Prod.fst) (g := fun a => (.inr (mkS a) : Key)) (l := ls.zipIdx)
    rw [List.zipIdx_map_fst] at h
    exact h.symm
  rw [this]
  unfold List.Nodup
  rw [List.pairwise_map]
  exact List.Pairwise.imp (fun h e => h (mkS_inj (Sum.inr.inj e))) nd
/-! ### readers -/
def readerF (c : Cmp) (k : Nat) : List (Str × D) := [("letters", .int c.L), ("rows", .tup (c.rows.map rowD)), ("marks", .tup (c.marks.map D.int)), ("spots", .obj k)]
theorem readerF_ren (c : Cmp) (k : Nat) (f : Nat → Nat) : renKV f (readerF c k) = readerF c (f k) := by
  have e1 : D.ren f (.tup (c.rows.map rowD)) = .tup (c.rows.map rowD) := ren_im f _ (by unfold D.im; exact im_rows _)
  have e2 : D.ren f (.tup (c.marks.map D.int)) = .tup (c.marks.map D.int) := ren_im f _ (by unfold D.im; exact im_ints _)
  unfold readerF renKV renKV renKV renKV
  rw [e1, e2]; rfl
theorem spotsK_ren (f : Nat → Nat) : ∀ (ls : List (List Nat)) (n : Nat), renKV f (spotsK ls n) = spotsK ls n
  | [], n => rfl
  | a :: r, n => by unfold spotsK renKV; rw [spotsK_ren f r]; rfl
def spotsD (L : Nat) : Ob := .dK (spotsK (colsN L) 0)
def readerAt (C : Addr) (m : List Ob) (k j : Nat) (c : Cmp) : Prop := m[k]? = some (.ins C (readerF c j)) ∧ m[j]? = some (spotsD c.L) ∧ k ≠ j
def initP (C : Addr) : VSp := fun dl ms R => ∃ c : Cmp, c.Ok ∧ dl = [.obj 0, c.d] ∧ ms = [.ins C []] ∧ R .non [.ins C (readerF c 1), spotsD c.L]
theorem callF_initR {m : List Ob} {C : Addr} {c : Cmp} {Q : D → List Ob → Prop} (ok : c.Ok) (q : Q .non (m ++ [.ins C (readerF c (m.length + 1)), spotsD c.L])) : CallF (initP C) [.obj m.length, c.d] (m ++ [.ins C []]) Q := by
  refine callF_init (dl := [c.d]) (by unfold imAll; rw [Cmp.im]; rfl) ⟨c, ok, rfl, rfl, fun _ => ?_⟩
  have e : ([Ob.ins C (readerF c 1), spotsD c.L].map (Ob.ren (m.length + ·))) = [.ins C (readerF c (m.length + 1)), spotsD c.L] := by
    show [Ob.ins C (renKV _ _), Ob.dK (renKV _ _)] = _
    rw [readerF_ren, spotsK_ren]; rfl
  rw [e]; exact q
def afterP (C : Addr) : VSp := fun dl ms R => ∃ (c : Cmp) (s a b : Nat), c.Ok ∧ s < c.rows.length ∧ a ∈ sgn c.L ∧ b ∈ sgn c.L ∧ dl = [.obj 0, .int (s : Nat), dS [a], dS [b]] ∧ ms = [.ins C (readerF c 1), spotsD c.L] ∧
  R (.int (nextN c s a b : Nat)) [.ins C (readerF c 1), spotsD c.L]
theorem callF_after {m : List Ob} {C : Addr} {k j : Nat} {c : Cmp} {s a b : Nat} {Q : D → List Ob → Prop} (ok : c.Ok) (hm : readerAt C m k j c) (hs : s < c.rows.length) (ha : a ∈ sgn c.L) (hb : b ∈ sgn c.L) (q : Q (.int (nextN c s a b : Nat)) m) :
    CallF (afterP C) [.obj k, .int (s : Nat), dS [a], dS [b]] m Q := by
  obtain ⟨h1, h2, hne⟩ := hm
  refine ⟨[k, j], [.ins C (readerF c 1), spotsD c.L], [.obj 0, .int (s : Nat), dS [a], dS [b]], ⟨?_, rfl, fun i n e => ?_, rfl⟩, c, s, a, b, ok, hs, ha, hb, rfl, rfl, fun _ => ?_⟩
  · exact List.nodup_cons.mpr ⟨fun z => hne (List.mem_singleton.mp z), by simp⟩
  · match i, e with
    | 0, e => cases e; exact ⟨_, rfl, by rw [h1]; show _ = some (Ob.ins C (renKV _ _)); rw [readerF_ren]; rfl⟩
    | 1, e => cases e; exact ⟨_, rfl, by rw [h2]; show _ = some (Ob.dK (renKV _ _)); rw [spotsK_ren]; rfl⟩
    | i + 2, e => simp at e
  · have e : over (fr [k, j] m.length) [k, j] m [.ins C (readerF c 1), spotsD c.L] = m := by
      unfold over; unfold over; unfold over
      have e1 : Ob.ren (fr [k, j] m.length) (.ins C (readerF c 1)) = .ins C (readerF c j) := by show Ob.ins C (renKV _ _) = _; rw [readerF_ren]; rfl
      have e2 : Ob.ren (fr [k, j] m.length) (spotsD c.L) = spotsD c.L := by show Ob.dK (renKV _ _) = _; rw [spotsK_ren]; rfl
      rw [e1, e2, set_self h1, set_self h2]; simp
    rw [e]; exact q
theorem padOk_nat {n : Nat} (h : n ≤ 1000000) : PadOk (n : Int) = true := by
  unfold PadOk fitsSsize PySem.Builtin.Str.tooLong sizeLine
  simp; omega
theorem zip_pad {x y : List Nat} {n : Nat} (hx : x.length ≤ n) (hy : y.length ≤ n) : zipD ((Txt.ljustF (mkS x) (n : Int) 46).cps.toList.map fun c => D.str ⟨#[c]⟩) ((Txt.ljustF (mkS y) (n : Int) 46).cps.toList.map fun c => D.str ⟨#[c]⟩) =
    (List.range n).map fun i => .tup [dS [x.getD i 46], dS [y.getD i 46]] := by
  rw [mkS_ljust, mkS_ljust, mkS_items, mkS_items]
  apply List.ext_getElem?
  intro i
  unfold zipD
  rw [List.getElem?_zipWith, List.getElem?_map, List.getElem?_map, List.getElem?_map]
  by_cases hi : i < n
  · rw [pad_at x n i hi hx, pad_at y n i hi hy, List.getElem?_range hi]; rfl
  · rw [List.getElem?_eq_none (show (x ++ List.replicate (n - x.length) 46).length ≤ i by simp; omega), List.getElem?_eq_none (show (List.range n).length ≤ i by simp; omega)]; rfl
theorem getE_range {n i : Nat} {d : D} {f : Nat → D} (h : ((List.range n).map f)[i]? = some d) : i < n ∧ d = f i := by
  obtain ⟨a, h1, rfl⟩ := getE_map h
  have hi : i < n := by have := (List.getElem?_eq_some_iff.mp h1).1; simpa using this
  rw [List.getElem?_range hi] at h1
  cases h1; exact ⟨hi, rfl⟩
theorem dot_end : (("." : Str).cps.getD 0 0) = 46 := by decide +kernel

/-! ### what the laws' own helpers promise -/
def colsP : List D → List D → Prop := fun dl items => ∃ L : Nat, dl = [.int L] ∧ 1 ≤ L ∧ L ≤ 3 ∧ items = (colsN L).map dS
theorem len_colsP : ∀ dl v, colsP dl v → dl.length = 1 := by rintro dl v ⟨L, rfl, _⟩; rfl
theorem im_colsP : ∀ dl v, colsP dl v → imAll v = true := by rintro dl v ⟨L, _, _, _, rfl⟩; exact im_dS _
def compP : VSp := drawV Cmp.d (fun dl => ∃ L n : Nat, dl = [.int L, .int n] ∧ 1 ≤ L ∧ L ≤ 3 ∧ 1 ≤ n ∧ n ≤ 400) 7000 (fun dl c => c.Ok ∧ ∀ L n : Nat, dl = [.int L, .int n] → c.L = L ∧ c.rows.length = n)
theorem len_compP : ∀ dl ms R, compP dl ms R → dl.length = 3 := by rintro dl ms R ⟨cells, c, dl', rfl, _, _, _, ⟨L, n, rfl, _⟩, _⟩; rfl
def readP : List D → D → Prop := fun dl v => ∃ (c : Cmp) (x y : List Nat), c.Ok ∧ Wd c.L x ∧ Wd c.L y ∧ x.length ≤ 1000000 ∧ y.length ≤ 1000000 ∧ dl = [c.d, dS x, dS y] ∧ v = .int (readN c x y : Nat)
theorem len_readP : ∀ dl v, readP dl v → dl.length = 3 := by rintro dl v ⟨c, x, y, _, _, _, _, _, rfl, _⟩; rfl
theorem im_readP : ∀ dl v, readP dl v → v.im = true := by rintro dl v ⟨c, x, y, _, _, _, _, _, _, rfl⟩; rfl
def tellP : List D → D → Prop := fun dl v => ∃ (c : Cmp) (x y : List Nat), c.Ok ∧ Wd c.L x ∧ Wd c.L y ∧ x.length ≤ 1000000 ∧ y.length ≤ 1000000 ∧ dl = [c.d, dS x, dS y] ∧ v = .int (tellN c x y)
theorem len_tellP : ∀ dl v, tellP dl v → dl.length = 3 := by rintro dl v ⟨c, x, y, _, _, _, _, _, rfl, _⟩; rfl
theorem im_tellP : ∀ dl v, tellP dl v → v.im = true := by rintro dl v ⟨c, x, y, _, _, _, _, _, _, rfl⟩; rfl
def layerN (L : Nat) : Nat → List (List Nat)
  | 0 => [[]]
  | k + 1 => (layerN L k).flatMap fun w => (ltr L).map fun a => w ++ [a]
def wordsN (L n : Nat) : List (List Nat) := (List.range (n + 1)).flatMap (layerN L)
theorem ltr_len (L : Nat) : (ltr L).length ≤ 3 := by unfold ltr; simp; omega
theorem layer_len (L : Nat) : ∀ k, (layerN L k).length ≤ 3 ^ k
  | 0 => Nat.le_refl _
  | k + 1 => by
    unfold layerN
    rw [List.length_flatMap]
    simp only [List.length_map, List.map_const', List.sum_replicate_nat]
    rw [Nat.pow_succ]
    exact Nat.mul_le_mul (layer_len L k) (ltr_len L)
theorem layer_wd (L : Nat) : ∀ k, ∀ w ∈ layerN L k, Wd L w ∧ w.length = k
  | 0, w, h => by
    have : w = [] := by simpa [layerN] using h
    subst this; exact ⟨fun a (h : a ∈ []) => absurd h List.not_mem_nil, rfl⟩
  | k + 1, w, h => by
    unfold layerN at h
    obtain ⟨v, hv, h⟩ := List.mem_flatMap.mp h
    obtain ⟨a, ha, rfl⟩ := List.mem_map.mp h
    obtain ⟨h1, h2⟩ := layer_wd L k v hv
    refine ⟨fun b hb => ?_, by simp [h2]⟩
    rcases List.mem_append.mp hb with z | z
    · exact h1 b z
    · rw [List.mem_singleton.mp z]; exact ha
theorem words_wd {L n : Nat} {w : List Nat} (h : w ∈ wordsN L n) : Wd L w ∧ w.length ≤ n := by
  unfold wordsN at h
  obtain ⟨k, hk, h⟩ := List.mem_flatMap.mp h
  obtain ⟨h1, h2⟩ := layer_wd L k w h
  have := List.mem_range.mp hk
  exact ⟨h1, by omega⟩
theorem words_ne (L n : Nat) : wordsN L n ≠ [] := by
  have : ([] : List Nat) ∈ wordsN L n := List.mem_flatMap.mpr ⟨0, List.mem_range.mpr (by omega), by simp [layerN]⟩
  intro e; rw [e] at this; cases this
theorem words_succ (L n : Nat) : wordsN L (n + 1) = wordsN L n ++ layerN L (n + 1) := by
  unfold wordsN
  rw [List.range_succ, List.flatMap_append]; simp
theorem words_len (L : Nat) {n : Nat} (h : n ≤ 6) : (wordsN L n).length ≤ 6000 := by
  have key : ∀ n, (wordsN L n).length ≤ (n + 1) * 3 ^ n := by
    intro n
    induction n with
    | zero => simp [wordsN, layerN]
    | succ n ih =>
      rw [words_succ, List.length_append]
      have h2 := layer_len L (n + 1)
      have h3 : 3 ^ n ≤ 3 ^ (n + 1) := Nat.pow_le_pow_right (by decide) (by omega)
      have h4 : (n + 1) * 3 ^ n ≤ (n + 1) * 3 ^ (n + 1) := Nat.mul_le_mul_left _ h3
      have h5 : (n + 1 + 1) * 3 ^ (n + 1) = (n + 1) * 3 ^ (n + 1) + 3 ^ (n + 1) := by rw [Nat.add_mul (n + 1) 1]; simp
      omega
  have h1 := key n
  have h2 : 3 ^ n ≤ 3 ^ 6 := Nat.pow_le_pow_right (by decide) h
  have h3 : (n + 1) * 3 ^ n ≤ 7 * 3 ^ 6 := Nat.mul_le_mul (by omega) h2
  have h4 : 7 * 3 ^ 6 = 5103 := rfl
  omega
def wordsP : List D → List D → Prop := fun dl items => ∃ L n : Nat, dl = [.int L, .int n] ∧ L ≤ 3 ∧ n ≤ 6 ∧ items = (wordsN L n).map dS
theorem len_wordsP : ∀ dl v, wordsP dl v → dl.length = 2 := by rintro dl v ⟨L, n, rfl, _⟩; rfl
theorem im_wordsP : ∀ dl v, wordsP dl v → imAll v = true := by rintro dl v ⟨L, n, _, _, _, rfl⟩; exact im_dS _
def wordP : VSp := drawV (fun l : List Nat => dS l) (fun dl => ∃ L n : Nat, dl = [.int L, .int n] ∧ 1 ≤ L ∧ L ≤ 3 ∧ n ≤ 1000) 1002 (fun dl l => ∀ L n : Nat, dl = [.int L, .int n] → Wd L l ∧ l.length ≤ n)
theorem len_wordP : ∀ dl ms R, wordP dl ms R → dl.length = 3 := by rintro dl ms R ⟨cells, c, dl', rfl, _, _, _, ⟨L, n, rfl, _⟩, _⟩; rfl
theorem sign_at (x : List Nat) (i : Nat) : Txt.ljustF (cutS (mkS x) (some (i : Int)) (some ((i : Int) + 1))) 1 (("." : Str).cps.getD 0 0) = mkS [x.getD i 46] := by
  rw [dot_end, mkS_cut, show ((i : Int) + 1) = ((i + 1 : Nat) : Int) by omega, cutN_both, show (1 : Int) = ((1 : Nat) : Int) from rfl, mkS_ljust]
  congr 1
  rw [show i + 1 - i = 1 by omega, List.getD_eq_getElem?_getD]
  by_cases h : i < x.length
  · rw [List.getElem?_eq_getElem h, List.drop_eq_getElem_cons h]; rfl
  · rw [List.getElem?_eq_none (by omega), List.drop_eq_nil_of_le (by omega)]; rfl
theorem before_ne {α : Type} {l : List α} (nd : l.Nodup) {j : Nat} {y : α} (h : l[j]? = some y) : ∀ (i : Nat) (z : α), i < j → l[i]? = some z → z ≠ y := fun i z hi hz e => by
  subst e
  obtain ⟨l1, e1⟩ := List.getElem?_eq_some_iff.mp h
  obtain ⟨l2, e2⟩ := List.getElem?_eq_some_iff.mp hz
  have := (List.getElem_inj nd).mp (e1.trans e2.symm)
  omega
theorem nodup_mkS {l : List (List Nat)} (nd : l.Nodup) : (l.map mkS).Nodup := by
  unfold List.Nodup
  rw [List.pairwise_map]
  exact List.Pairwise.imp (fun h e => h (mkS_inj e)) nd
theorem flatMap_take_len {α β : Type} {l : List α} {j : Nat} {a : α} (f : α → List β) (h : l[j]? = some a) : ((l.take j).flatMap f).length + (f a).length ≤ (l.flatMap f).length := by
  rw [← List.length_append, ← flatMap_take_succ f h]
  conv => rhs; rw [← List.take_append_drop (j + 1) l, List.flatMap_append, List.length_append]
  omega
theorem abc_cut {L : Nat} (h : L ≤ 3) : cutS "abc" none (some (L : Int)) = mkS (ltr L) := by
  have : L = 0 ∨ L = 1 ∨ L = 2 ∨ L = 3 := by omega
  rcases this with rfl | rfl | rfl | rfl <;> decide +kernel
/-- a comparison put together -/
theorem mk_cmp {L n : Nat} (h1 : 1 ≤ L) (h3 : L ≤ 3) (n1 : 1 ≤ n) (n4 : n ≤ 400) {rs : List (List Nat)} {vs : List Int} (hl : rs.length = n) (hr : ∀ r ∈ rs, r.length = (L + 1) * (L + 1) - 1 ∧ ∀ k ∈ r, k < n) (hv : vs.length = n) (hm : ∀ v ∈ vs, -1 ≤ v ∧ v ≤ 1) : (Cmp.mk L rs vs).Ok where
  l1 := h1
  l3 := h3
  ne := fun e => by
    have : rs = [] := e
    rw [this] at hl; simp at hl; omega
  wid := fun r h => (hr r h).1
  in_ := fun r h k hk => by show k < rs.length; rw [hl]; exact (hr r h).2 k hk
  mkl := by show vs.length = rs.length; omega
  sz := by show rs.length ≤ 4096; omega
  mr := hm
theorem sq15 {L : Nat} (h3 : L ≤ 3) : (L + 1) * (L + 1) - 1 ≤ 15 := by
  have : (L + 1) * (L + 1) ≤ 4 * 4 := Nat.mul_le_mul (by omega) (by omega)
  omega
theorem toNat_map {bs : List Int} (h : ∀ k ∈ bs, 0 ≤ k) : (bs.map Int.toNat).map (fun n => D.int (n : Nat)) = bs.map D.int := by
  rw [List.map_map]
  refine List.map_congr_left fun k hk => ?_
  show D.int ((k.toNat : Nat) : Int) = D.int k
  rw [Int.toNat_of_nonneg (h k hk)]
theorem all_of {α β : Type} {xs : List α} {bs : List β} {Pr : α → β → Prop} (hl : bs.length = xs.length) (h : ∀ (i : Nat) a b, xs[i]? = some a → bs[i]? = some b → Pr a b) : ∀ b ∈ bs, ∃ a ∈ xs, Pr a b := fun b hb => by
  obtain ⟨i, hi, e⟩ := List.getElem_of_mem hb
  have hx : i < xs.length := by omega
  exact ⟨xs[i], List.getElem_mem hx, h i _ _ (List.getElem?_eq_getElem hx) (by rw [List.getElem?_eq_getElem hi, e])⟩
theorem gJ {l : List Ob} {bs : List Nat} : (l ++ [Ob.lst (bs.map fun a => dS [a])])[l.length]? = some (.lst ((bs.map fun a => mkS [a]).map D.str)) := by
  rw [gL, List.map_map]; rfl
theorem join_ones (bs : List Nat) : Txt.join (mkS []) (bs.map fun a => mkS [a]) = mkS bs := by
  have hf : ∀ l : List Nat, (l.map fun a => [a]).flatten = l := by
    intro l
    induction l with
    | nil => rfl
    | cons a r ih => rw [List.map_cons, List.flatten_cons, ih]; rfl
  have h := mkS_join (bs.map fun a => [a])
  rw [List.map_map, hf] at h
  exact h
theorem ltr_ne_nil {L : Nat} (h : 1 ≤ L) : ltr L ≠ [] := by
  unfold ltr
  intro e
  have := congrArg List.length e
  simp at this; omega
end VL

namespace VL
open PySem PySem.Spec PyProof.Rows L2

/-! ## repr of lists of verdicts -/
theorem py_ints {ms : List Ob} : ∀ vs : List Int, PyAll ms (vs.map D.int) (vs.map PyData.int)
  | [] => .nil
  | v :: r => .cons (.int v) (py_ints r)
theorem sh_ints : ∀ (vs : List Int), (∀ v ∈ vs, -1 ≤ v ∧ v ≤ 1) → PyData.showableAll (vs.map PyData.int) = true ∧ PyData.hasDictAll (vs.map PyData.int) = false ∧ PyData.depthAll (vs.map PyData.int) = 0 ∧ PyData.leavesShortAll 8 (vs.map PyData.int) = true ∧ PyData.weightAll (vs.map PyData.int) ≤ 2 * vs.length
  | [], _ => ⟨rfl, rfl, rfl, rfl, Nat.le_refl _⟩
  | v :: r, h => by
    obtain ⟨a, b, c, d, e⟩ := sh_ints r fun x hx => h x (List.mem_cons_of_mem _ hx)
    have hv := h v List.mem_cons_self
    have k1 : PyData.showable (.int v) = true ∧ PyData.leavesShort 8 (.int v) = true ∧ PyData.weight (.int v) ≤ 1 := by
      have : v = -1 ∨ v = 0 ∨ v = 1 := by omega
      rcases this with rfl | rfl | rfl <;> exact ⟨by decide +kernel, by decide +kernel, by decide +kernel⟩
    refine ⟨?_, ?_, ?_, ?_, ?_⟩
    · show (PyData.showable (.int v) && PyData.showableAll (r.map PyData.int)) = true
      rw [k1.1, a]; rfl
    · show (PyData.hasDict (.int v) || PyData.hasDictAll (r.map PyData.int)) = false
      rw [b]; rfl
    · show max (PyData.depth (.int v)) (PyData.depthAll (r.map PyData.int)) = 0
      rw [c]; rfl
    · show (PyData.leavesShort 8 (.int v) && PyData.leavesShortAll 8 (r.map PyData.int)) = true
      rw [k1.2.1, d]; rfl
    · show PyData.weight (.int v) + 1 + PyData.weightAll (r.map PyData.int) ≤ 2 * (r.length + 1)
      have := k1.2.2
      omega
section
variable {X : Cx} {B : Bs} {ms : List Ob} {Q : D → List Ob → Prop}
def shownI (vs : List Int) : Str := (PyData.list (vs.map PyData.int)).shown
theorem wc_reprV {k : Nat} {vs : List Int} (hgd : X.A.guards = some []) (hu : X.A.units + 70 < cLine) (hk : ms[k]? = some (.lst (vs.map D.int))) (hv : ∀ v ∈ vs, -1 ≤ v ∧ v ≤ 1) (hl : vs.length ≤ 100000) (q : Q (.str (shownI vs)) ms) : WC X B ms (.builtin "repr") [.obj k] Q := by
  obtain ⟨a, b, c, d, e⟩ := sh_ints vs hv
  refine wc_repr hgd hu (.lst hk (py_ints vs)) (by show PyData.showableAll _ = true; exact a) (by show PyData.hasDictAll _ = false; exact b) (by show PyData.depthAll _ + 1 ≤ 64; rw [c]; decide) ?_ q
  have h := PyData.shown_le 8 (by decide) (.list (vs.map PyData.int)) (by show PyData.leavesShortAll 8 _ = true; exact d)
  have hw : (PyData.list (vs.map PyData.int)).weight ≤ 200000 := by show PyData.weightAll _ ≤ _; omega
  have : (8 + 2) * (PyData.list (vs.map PyData.int)).weight + 8 ≤ 2000008 := by omega
  exact Nat.le_trans h (Nat.le_trans this (by decide))
end
theorem hu70 {k : Nat} {A : Around} (hr : Room k A) : A.units + 70 < cLine := by have := hr.un; omega

/-! ## pairs of words -/
def pD (p : List Nat × List Nat) : D := .tup [dS p.1, dS p.2]
def PairOk (L : Nat) (p : List Nat × List Nat) : Prop := Wd L p.1 ∧ Wd L p.2 ∧ p.1.length ≤ 10000 ∧ p.2.length ≤ 10000
theorem im_pD (l : List (List Nat × List Nat)) : imAll (l.map pD) = true := imAll_iff.mpr fun d hd => by
  obtain ⟨i, _, rfl⟩ := List.mem_map.mp hd; rfl
theorem Wd.drop {L : Nat} {x : List Nat} (h : Wd L x) (n : Nat) : Wd L (x.drop n) := fun a ha => h a (List.mem_of_mem_drop ha)
theorem Wd.take {L : Nat} {x : List Nat} (h : Wd L x) (n : Nat) : Wd L (x.take n) := fun a ha => h a (List.mem_of_mem_take ha)
theorem Wd.app {L : Nat} {x y : List Nat} (h : Wd L x) (h2 : Wd L y) : Wd L (x ++ y) := fun a ha => (List.mem_append.mp ha).elim (h a) (h2 a)
theorem Wd.a {L : Nat} (h : 1 ≤ L) : Wd L [97] := fun a ha => by
  rw [List.mem_singleton.mp ha]
  unfold ltr
  obtain ⟨k, rfl⟩ : ∃ k, L = k + 1 := ⟨L - 1, by omega⟩
  simp
theorem Wd.init {L : Nat} {x : List Nat} (h : Wd L x) : Wd L x.dropLast := fun a ha => h a (List.dropLast_subset _ ha)
theorem Wd.rep {L : Nat} {x : List Nat} (h : Wd L x) (n : Nat) : Wd L (List.replicate n x).flatten := fun a ha => by
  obtain ⟨l, hl, ha⟩ := List.mem_flatten.mp ha
  rw [(List.mem_replicate.mp hl).2] at ha
  exact h a ha
theorem rep_len (n : Nat) (x : List Nat) : (List.replicate n x).flatten.length = n * x.length := by
  rw [List.length_flatten, List.map_replicate, List.sum_replicate_nat]
theorem dk_cl (cells : List Int) (c : Int) {n : Nat} (h : 1 ≤ n) : (dk cells c).all (Ob.cl n) = true := by
  show (clAll n (cells.map D.int) && (clAll n [.obj 0, .int c] && true)) = true
  rw [im_clA (im_ints cells)]
  show (decide (0 < n) && true && true) = true
  simp; omega
/-- the state within a turn -/
def MidP (ns : List Int) (i : Nat) (cm : Cmp) (b : Int) (n : Nat) (ds : List (Option D)) (m : List Ob) : Prop :=
  ∃ (cells : List Int) (c : Int) (R : List Ob) (j : Nat) (ps : List (List Nat × List Nat)) (o6 o7 o8 o9 o10 o11 : Option D), DkOk cells c ∧ c ≤ b ∧ ds = [some (.rol (ns.map D.int)), some (.obj 1), some (.int (i : Nat)), some (.int (cm.L : Nat)), some cm.d, some (.obj (j + 2)), o6, o7, o8, o9, o10, o11] ∧ m = dk cells c ++ R ∧ R[j]? = some (.lst (ps.map pD)) ∧ (∀ p ∈ ps, PairOk cm.L p) ∧ ps.length ≤ n
theorem mulOk_nat {x : List Nat} {n : Nat} (hx : x.length ≤ 10000) (h0 : 1 ≤ n) (h : n ≤ 1000) : MulOk (mkS x) (n : Int) := by
  refine ⟨?_, fun _ _ => ?_, fun _ _ => ?_⟩
  · simp; omega
  · rw [mkS_len]
    have : (10000 : Int) ≤ (2 ^ 63 - 1) / (n : Int) := by
      rw [Int.le_ediv_iff_mul_le (by omega)]
      omega
    omega
  · rw [mkS_len, Int.toNat_natCast]
    unfold PySem.Builtin.Str.tooLong sizeLine
    have : x.length * n ≤ 10000 * 1000 := Nat.mul_le_mul hx h
    simp; omega
def MidW (ns : List Int) (i : Nat) (cm : Cmp) (b : Int) (n : Nat) (w : List Nat) (k : Option D) (ds : List (Option D)) (m : List Ob) : Prop :=
  ∃ (cells : List Int) (c : Int) (R : List Ob) (j : Nat) (ps : List (List Nat × List Nat)) (v : List Nat) (o9 o10 o11 : Option D), DkOk cells c ∧ c ≤ b ∧ ds = [some (.rol (ns.map D.int)), some (.obj 1), some (.int (i : Nat)), some (.int (cm.L : Nat)), some cm.d, some (.obj (j + 2)), some (dS w), k, some (dS v), o9, o10, o11] ∧ m = dk cells c ++ R ∧ R[j]? = some (.lst (ps.map pD)) ∧ (∀ p ∈ ps, PairOk cm.L p) ∧ ps.length ≤ n ∧ Wd cm.L v ∧ v.length ≤ 10000
section
variable {X : Cx} {B : Bs} {ms : List Ob} {Q : D → List Ob → Prop}
theorem wc_reprT {α : Type} (xs : List α) (t : α → Int) {k : Nat} (hgd : X.A.guards = some []) (hu : X.A.units + 70 < cLine) (hk : ms[k]? = some (.lst (xs.map fun a => .int (t a)))) (hv : ∀ a ∈ xs, -1 ≤ t a ∧ t a ≤ 1) (hl : xs.length ≤ 100000) (q : Q (.str (shownI (xs.map t))) ms) : WC X B ms (.builtin "repr") [.obj k] Q :=
  wc_reprV (vs := xs.map t) hgd hu (by rw [hk, List.map_map]; rfl) (fun v hv' => by obtain ⟨a, ha, rfl⟩ := List.mem_map.mp hv'; exact hv a ha) (by rw [List.length_map]; exact hl) q
end
theorem im3 (c : Cmp) (x y : List Nat) : imAll [c.d, dS x, dS y] = true := by
  unfold imAll; rw [Cmp.im]; rfl
theorem Cmp.Ok.mr' {c : Cmp} (ok : c.Ok) {x y : List Nat} (hx : Wd c.L x) (hy : Wd c.L y) : -1 ≤ tellN c x y ∧ tellN c x y ≤ 1 := ok.mr _ (List.mem_of_getElem? (ok.mark hx hy))
end VL

namespace VL
open PySem PySem.Spec PyProof.Rows L2

/-! ## a, b = a text of two signs -/
def gStr2 (t : TGs) : TG := fun v σ H Q => ∃ a b, v = .str ⟨#[a, b]⟩ ∧ t [.str ⟨#[a]⟩, .str ⟨#[b]⟩] σ H Q
theorem unpack_str2 {prog : Program} {w : World} {A : Around} {E : Value → Shared → Prop} {s : Shared} {a b : Nat} {tk : Tok} {Q : List Value → Shared → Prop} (hh : A.handled = none)
    (hQ : ∀ h' t' u1 u2, (∀ c o, s.heap.get? c = some o → h'.get? c = some o) → Q [.str ⟨#[a]⟩ u1, .str ⟨#[b]⟩ u2] { s with heap := h', toks := t' }) : wpAny (model prog w) A (unpackItems (.str ⟨#[a, b]⟩ tk) 2 none) Q E s := by
  unfold unpackItems
  refine wpAny_bind ?_
  unfold notIterableAtAll
  refine wpAny_bind (wpAny_specialOf (typeIs_str s _ tk) F.slot_str_iter.lookup ?_)
  refine wpAny_pure ?_
  simp only [Bool.false_eq_true, if_false]
  refine wpAny_bind (wpAny_holding (wpAny_pyIter_str fun o St WW st0 => ?_))
  have W := WW A hh
  have old : ∀ {c : Addr} {ob : Obj}, s.heap.get? c = some ob → c ≠ s.heap.objs.size := fun e => Nat.ne_of_lt (Heap.lt_size e)
  refine wpAny_bind (wpAny_holding ?_)
  show wpAny _ _ (pyNext _ >>= _) _ _ _
  refine wpAny_bind (W.item 0 _ _ _ (by show 0 < 2; decide) st0 fun v1 h1 t1 p1 st1 k1 => ?_)
  obtain ⟨c1, u1, e1, rfl⟩ := p1
  refine wpAny_bind (wpAny_holding ?_)
  show wpAny _ _ (pyNext _ >>= _) _ _ _
  refine wpAny_bind (W.item 1 _ _ _ (by show 1 < 2; decide) st1 fun v2 h2 t2 p2 st2 k2 => ?_)
  obtain ⟨c2, u2, e2, rfl⟩ := p2
  refine wpAny_bind (wpAny_holding ?_)
  show wpAny _ _ (pure []) _ _ _
  refine wpAny_pure (wpAny_pure (wpAny_pure ?_))
  rw [if_neg (by simp)]
  refine wpAny_bind (wpAny_holding (W.done _ _ _ st2 fun h3 t3 k3 => ?_))
  simp only [Option.isSome_none, Bool.false_eq_true, if_false]
  refine wpAny_pure ?_
  cases e1; cases e2
  refine hQ h3 t3 u1 u2 fun c ob e => ?_
  have hc : c ∉ [s.heap.objs.size] := by simpa using old e
  exact k3 c ob hc (k2 c ob hc (k1 c ob hc (Heap.get?_push_of_some _ e)))
theorem pg_str2 {X : Cx} {pos : Pos} {es : List Expr} {k : Nat} {t : TGs} (hc : X.calm = true) (h : PGs X es t)
    (hn : (assignEach es X.env).length = 2 := by rfl) (hst : (assignEach es X.env).findIdx? (·.1) = none := by rfl) : PG X (.Tuple es k pos) (gStr2 t) := by
  refine ⟨fun pins s σ H v u Q I r hw => ?_⟩
  obtain ⟨a, b, rfl, hw⟩ := hw
  obtain ⟨tk, rfl⟩ := r
  rw [PyProof.Rows.assign_Tuple]
  refine wpAny_bind (wpAny_standAt ?_)
  unfold unpack
  rw [hn, hst]
  refine wpAny_bind (wpAny_holding (unpack_str2 (I.ok.hd hc) fun h' t' u1 u2 hk => ?_))
  exact h.run pins _ σ H [.str ⟨#[a]⟩, .str ⟨#[b]⟩] _ Q (I.kept (t' := t') hk) (.cons (show RelV (.str ⟨#[a]⟩) (.str ⟨#[a]⟩ u1) from ⟨u1, rfl⟩) (.cons (show RelV (.str ⟨#[b]⟩) (.str ⟨#[b]⟩ u2) from ⟨u2, rfl⟩) .nil)) hw
/-- as a statement's target; as a comprehension's -/
theorem wg_str2 {X : Cx} {B : Bs} {ds : List (Option D)} {ms : List Ob} {pos : Pos} {es : List Expr} {k : Nat} {a b : Nat} {N : List (Option D) → List Ob → Prop} (hc : X.calm = true) (hn : noStar es = true) (hl : (assignEach es X.env).length = 2) (h : WGs X B ds ms es [dS [a], dS [b]] N)
    (hst : (assignEach es X.env).findIdx? (·.1) = none := by rfl) : WG X B ds ms (.Tuple es k pos) (dS [a, b]) N := .mk fun σ H θ v S L r => by
  cases rep_str r
  refine can_pg (pg_str2 hc pgs_can hl hst) ⟨a, b, rfl, ?_⟩
  exact WGs.can es (noStar_each es hn) h σ H θ _ S L (mk_cons mk_str (mk_cons mk_str mk_nil))
def appS2 (i j : Nat) : D → List (Option D) → Option (List (Option D))
  | .str ⟨⟨[a, b]⟩⟩, ds => some ((ds.set i (some (dS [a]))).set j (some (dS [b])))
  | _, _ => none
theorem tg_pairS {X : Cx} {scope : Scope} {vs : List Nat} (i j : Nat) {x y : Str} {p1 p2 p3 : Pos} {k : Nat} (hc : X.calm = true) (hN : X.N.Nodup) (hi : X.N[i]? = some x) (hj : X.N[j]? = some y) (hx : scope.names.lookup x = some .local) (hy : scope.names.lookup y = some .local) (hvi : i ∈ vs) (hvj : j ∈ vs) :
    TgLc X scope vs (.Tuple [.Name x p1, .Name y p2] k p3) (gStr2 (gCons (gName i) (gCons (gName j) gNil))) (appS2 i j) where
  pg := fun s H C cl fp => pg_str2 (X := X.blk s H scope (compEnvC scope cl C X.env) fp) hc (pgs_cons (pg_name hN hi (.inl (lookup_relabel_local hx)) (.inr (lookup_relabel_local hx))) (pgs_cons (pg_name hN hj (.inl (lookup_relabel_local hy)) (.inr (lookup_relabel_local hy))) pgs_nil))
  go := fun σ H θ v d ds ds' e r L => by
    have hd : ∃ a b, d = dS [a, b] ∧ ds' = (ds.set i (some (dS [a]))).set j (some (dS [b])) := by
      unfold appS2 at e
      split at e
      · cases e; exact ⟨_, _, rfl, rfl⟩
      · cases e
    obtain ⟨a, b, rfl, rfl⟩ := hd
    cases rep_str r
    refine ⟨_, fun Q q => ⟨a, b, rfl, _, _, rfl, _, _, rfl, rfl, q⟩, (L.set mk_str i).set mk_str j, ?_⟩
    rw [wipe_set hvj, wipe_set hvi]
    exact wipe_wipe fun _ h => h
end VL

namespace VL
open PySem PySem.Spec PyProof.Rows L2

section
variable {X : Cx} {B : Bs} {ds : List (Option D)} {ms : List Ob} {Q : D → List Ob → Prop} {a b c : Expr} {pos : Pos}
/-! ## names of built-in types, isinstance -/
theorem we_ty {x : Str} {T : String} (hm : X.mg x = none) (hg : Gl X x) (hv : bootBuiltins x = some (.type T)) (q : Q (.ty T) ms) (hn : x ≠ "__name__" := by decide) (hd : (x == ("__debug__" : Str)) = false := by decide) : WE X B ds ms (.Name x pos) Q :=
  WE.pe (pe_bltn (v := .ty T) hg hm hv rfl hn hd) fun σ H θ S L => pv_same S mk_ty q
def tyN (ms : List Ob) : D → Option String
  | .non => some "NoneType"
  | .bl _ => some "bool"
  | .int _ => some "int"
  | .str _ => some "str"
  | .tup _ => some "tuple"
  | .rol _ => some "list"
  | .rod _ _ => some "dict"
  | .obj k => match ms[k]? with
    | some (.lst _) => some "list"
    | some (.dK _) => some "dict"
    | some (.dT _) => some "dict"
    | _ => none
  | _ => none
theorem tyN_ok {K : PySem.W.Frag} {θ : List Addr} {H : Hp} (S : Sat K B θ ms H) : ∀ {d : D} {v : V} {t : String}, Rep K θ H d v → tyN ms d = some t → TyX K H v (.type t)
  | .non, _, _, r, e => by cases e; rw [rep_non r]; exact .base .non
  | .bl _, _, _, r, e => by cases e; rw [rep_bl r]; exact .base (.bl _)
  | .int _, _, _, r, e => by cases e; rw [rep_int r]; exact .base (.int _)
  | .str _, _, _, r, e => by cases e; rw [rep_str r]; exact .base (.str _)
  | .tup _, _, _, r, e => by
    cases e
    obtain ⟨a, vs, rfl, s, _⟩ := rep_tup r
    rcases s with (s | ⟨o, s⟩) | ⟨o, its, n, h1, h2, _⟩
    · exact .base (.tup s)
    · exact .fTuple s
    · exact .kTuple h1 h2
  | .rol _, _, _, r, e => by
    cases e
    obtain ⟨a, vs, rfl, s, _⟩ := rep_rol r
    rcases s with ⟨o, s⟩ | ⟨o, its, n, h1, h2, _⟩
    · exact .base (.frz s)
    · exact .kList h1 h2
  | .rod _ _, _, _, r, e => by
    cases e
    obtain ⟨a, vs, rfl, ⟨o, s⟩, _⟩ := rep_rod r
    exact .fDict s
  | .obj k, _, _, r, e => by
    obtain ⟨a, e1, rfl⟩ := rep_obj r
    cases q : ms[k]? with
    | none => simp [tyN, q] at e
    | some ob =>
      have ho := S.obs k ob a q e1
      cases ob with
      | lst ds => simp [tyN, q] at e; subst e; obtain ⟨vs, s, _⟩ := ho; exact .base (.lst s)
      | dK ds => simp [tyN, q] at e; subst e; obtain ⟨vs, s, _⟩ := ho; exact .base (.dK s)
      | dT ds => simp [tyN, q] at e; subst e; obtain ⟨vs, s, _⟩ := ho; exact .base (.dT s)
      | ins C fs => simp [tyN, q] at e
  | .ref _, _, _, _, e => by simp [tyN] at e
  | .ty _, _, _, _, e => by simp [tyN] at e
theorem wc_isi {d : D} {t T : String} {k : Bool} (ht : tyN ms d = some t) (hk : kitB t T = some k) (q : Q (.bl k) ms) : WC X B ms (.builtin "isinstance") [d, .ty T] Q := WC.of call_isi fun H θ vs S r0 => by
  obtain ⟨v, w, rfl, r1, r2⟩ := reps2 r0
  rw [rep_ty r2]
  exact ⟨v, .ty T, .type t, .type T, k, rfl, .ty T, tyN_ok S r1 ht, kit_ty hk, pv_same S mk_bl q⟩
/-! ## and, or as values -/
theorem we_and1 (h : WE X B ds ms a Q) : WE X B ds ms (.BoolOp .And [a] pos) Q := WE.pe (pe_one pe_can) fun σ H θ S L => h σ H θ S L
theorem we_or1 (h : WE X B ds ms a Q) : WE X B ds ms (.BoolOp .Or [a] pos) Q := WE.pe (pe_one pe_can) fun σ H θ S L => h σ H θ S L
theorem we_and2 {rest : List Expr} (h : WE X B ds ms a fun d m => ∃ k, d = .bl k ∧ (k = true → WE X B ds m (.BoolOp .And (b :: rest) pos) Q) ∧ (k = false → Q (.bl false) m)) : WE X B ds ms (.BoolOp .And (a :: b :: rest) pos) Q :=
  WE.pe (pe_and pe_can pe_can) fun σ H θ S L => h.bind S L fun d m v H1 more ⟨k, e, h1, h2⟩ r im S1 L1 => by
    subst e
    refine ⟨k, rep_bl r, ?_⟩
    cases k with
    | true => rw [if_pos rfl]; exact ((h1 rfl) σ H1 _ S1 L1).mono fun v H2 z => z.trans im
    | false => rw [if_neg (by decide)]; exact PV.trans im (pv_same S1 mk_bl (h2 rfl))
theorem we_or2 {rest : List Expr} (h : WE X B ds ms a fun d m => ∃ k, d = .bl k ∧ (k = false → WE X B ds m (.BoolOp .Or (b :: rest) pos) Q) ∧ (k = true → Q (.bl true) m)) : WE X B ds ms (.BoolOp .Or (a :: b :: rest) pos) Q :=
  WE.pe (pe_or pe_can pe_can) fun σ H θ S L => h.bind S L fun d m v H1 more ⟨k, e, h1, h2⟩ r im S1 L1 => by
    subst e
    refine ⟨k, rep_bl r, ?_⟩
    cases k with
    | false => rw [if_neg (by decide)]; exact ((h1 rfl) σ H1 _ S1 L1).mono fun v H2 z => z.trans im
    | true => rw [if_pos rfl]; exact PV.trans im (pv_same S1 mk_bl (h2 rfl))
/-- a op b op' c -/
theorem we_chain {op op' : CmpOp} (h : WE X B ds ms a fun d m => WE X B ds m b fun e m2 => WO X B m2 (compareOp op) d e fun r m3 => ∃ k, r = .bl k ∧ (k = true → WE X B ds m3 c fun f m4 => WO X B m4 (compareOp op') e f Q) ∧ (k = false → Q (.bl false) m3))
    (hm : lastMarks [op, op'] [b, c] = false := by with_unfolding_all rfl) : WE X B ds ms (.Compare a [op, op'] [b, c] pos) Q :=
  WE.pe (pe_chain or_can or_can pe_can pe_can pe_can hm) fun σ H θ S L => h.bind S L fun d m v H1 more q1 r1 im1 S1 L1 => q1.bind S1 L1 fun e m2 w H2 more2 q2 r2 im2 S2 L2 =>
    (q2 H2 _ v w S2 (Rep.mono (Le.app _ _) im2 _ _ r1) r2).mono fun z H3 ⟨d3, m3, more3, r3, im3, S3, k, e3, g1, g2⟩ => by
      subst e3
      refine ⟨k, rep_bl r3, ?_⟩
      cases k with
      | true =>
        rw [if_pos rfl]
        exact (g1 rfl).bind S3 (L2.mono (Le.app _ _) im3) fun f m4 u H4 more4 q4 r4 im4 S4 L4 =>
          (q4 H4 _ w u S4 (Rep.mono (Le.app _ _) im4 _ _ (Rep.mono (Le.app _ _) im3 _ _ r2)) r4).mono fun z H5 hz => (((hz.trans im4).trans im3).trans im2).trans im1
      | false =>
        rw [if_neg (by decide)]
        exact PV.trans im1 (PV.trans im2 (PV.trans im3 (pv_same S3 mk_bl (g2 rfl))))
/-- the same as a test -/
theorem wt_chain {Q : Bool → List Ob → Prop} {op op' : CmpOp} (h : WE X B ds ms a fun d m => WE X B ds m b fun e m2 => WO X B m2 (compareOp op) d e fun r m3 => ∃ k, r = .bl k ∧ (k = true → WE X B ds m3 c fun f m4 => WO X B m4 (compareOp op') e f fun r m5 => ∃ k, r = .bl k ∧ Q k m5) ∧ (k = false → Q false m3))
    (hm : lastMarks [op, op'] [b, c] = false := by with_unfolding_all rfl) : WT X B ds ms (.Compare a [op, op'] [b, c] pos) Q :=
  WT.pt (pt_chain or_can or_can pe_can pe_can pe_can hm) fun σ H θ S L => h.bind S L fun d m v H1 more q1 r1 im1 S1 L1 => q1.bind S1 L1 fun e m2 w H2 more2 q2 r2 im2 S2 L2 =>
    (q2 H2 _ v w S2 (Rep.mono (Le.app _ _) im2 _ _ r1) r2).mono fun z H3 ⟨d3, m3, more3, r3, im3, S3, k, e3, g1, g2⟩ => by
      subst e3
      refine ⟨k, rep_bl r3, ?_⟩
      cases k with
      | true =>
        rw [if_pos rfl]
        exact (g1 rfl).bind S3 (L2.mono (Le.app _ _) im3) fun f m4 u H4 more4 q4 r4 im4 S4 L4 =>
          (q4 H4 _ w u S4 (Rep.mono (Le.app _ _) im4 _ _ (Rep.mono (Le.app _ _) im3 _ _ r2)) r4).mono fun z H5 ⟨d5, m5, more5, r5, im5, S5, k, e5, q5⟩ => by
            subst e5
            exact ⟨k, rep_bl r5, PT'.trans im1 (PT'.trans im2 (PT'.trans im3 (PT'.trans im4 ⟨m5, more5, im5, S5, q5⟩)))⟩
      | false =>
        rw [if_neg (by decide)]
        exact ⟨false, rfl, PT'.trans im1 (PT'.trans im2 (PT'.trans im3 (pt_same S3 (g2 rfl))))⟩
/-! ## beside nothing -/
def isNonD : D → Bool
  | .non => true
  | _ => false
theorem isNon_ok {K : PySem.W.Frag} {θ : List Addr} {H : Hp} : ∀ {d : D} {v : V}, Rep K θ H d v → decide (v = V.non) = isNonD d
  | .non, _, r => by rw [rep_non r]; rfl
  | .bl _, _, r => by rw [rep_bl r]; rfl
  | .int _, _, r => by rw [rep_int r]; rfl
  | .str _, _, r => by rw [rep_str r]; rfl
  | .ref _, _, r => by rw [rep_ref r]; rfl
  | .ty _, _, r => by rw [rep_ty r]; rfl
  | .tup _, _, r => by obtain ⟨_, _, rfl, _⟩ := rep_tup r; rfl
  | .rol _, _, r => by obtain ⟨_, _, rfl, _⟩ := rep_rol r; rfl
  | .rod _ _, _, r => by obtain ⟨_, _, rfl, _⟩ := rep_rod r; rfl
  | .obj _, _, r => by obtain ⟨_, _, rfl⟩ := rep_obj r; rfl
theorem wo_isN {d : D} (q : Q (.bl (isNonD d)) ms) : WO X B ms (compareOp .Is) d .non Q := WO.of op_isN fun H θ x y S r1 r2 => ⟨rep_non r2, by rw [isNon_ok r1]; exact pv_same S mk_bl q⟩
theorem wo_notN {d : D} (q : Q (.bl (!isNonD d)) ms) : WO X B ms (compareOp .IsNot) d .non Q := WO.of op_notN fun H θ x y S r1 r2 => ⟨rep_non r2, by rw [isNon_ok r1]; exact pv_same S mk_bl q⟩
theorem vals_size {xs : List V} {its : List Value} (r : Vals xs its) : its.toArray.size = xs.length := by simp [r.length]
def rEqT0 (K : PySem.W.Frag) : R2 := fun x y H Q => ∃ a b xs, x = .ref a ∧ y = .ref b ∧ SqT K H a xs ∧ SqT K H b [] ∧ Q (.bl xs.isEmpty) H
theorem op_eqT0 (hu : X.A.units < cLine) : OpR X (compareOp .Eq) (rEqT0 X.K) := by
  intro pins s σ H x y v u Q I rx ry h
  obtain ⟨a, b, xs, rfl, rfl, ha, hb, q⟩ := h
  cases rx
  cases ry
  obtain ⟨its, r1, p1, _⟩ := I.tuple ha
  obtain ⟨its2, r2, p2, _⟩ := I.tuple hb
  have z2 : its2 = [] := by cases r2; rfl
  subst z2
  refine SeqAt.eq_tupleAt (e := fun _ => true) p1 p2 hu (fun j _ h2 => absurd h2 (by simp)) ⟨.bl _, H, I, rfl, ?_⟩
  have e : ((List.range (min its.toArray.size ([] : List Value).toArray.size)).all (fun _ => true) && its.toArray.size == ([] : List Value).toArray.size) = xs.isEmpty := by
    rw [vals_size r1]; cases xs <;> simp
  rw [e]; exact q
theorem wo_eqT0 {xs : List D} (hu : X.A.units < cLine) (q : Q (.bl xs.isEmpty) ms) : WO X B ms (compareOp .Eq) (.tup xs) (.tup []) Q := WO.of (op_eqT0 hu) fun H θ x y S r1 r2 => by
  obtain ⟨a, vs, rfl, s1, q1⟩ := rep_tup r1
  obtain ⟨b, ws, rfl, s2, q2⟩ := rep_tup r2
  have := reps_nil q2
  subst this
  refine ⟨a, b, vs, rfl, rfl, s1, s2, ?_⟩
  have e : vs.isEmpty = xs.isEmpty := by
    have := q1.length
    cases vs <;> cases xs <;> simp at this ⊢
  rw [e]; exact pv_same S mk_bl q
def rEqL0 (K : PySem.W.Frag) (neg : Bool) : R2 := fun x y H Q => ∃ a b xs, x = .ref a ∧ y = .ref b ∧ SqL K H a xs ∧ SqL K H b [] ∧ Q (.bl (neg ^^ xs.isEmpty)) H
theorem plainL_isList {h : Heap} {a : Addr} {its : Array Value} (p : PlainL h a its) : h.IsList a its := by
  obtain ⟨o, n, e, c, _, d⟩ := p
  exact ⟨o, e, c, n, d⟩
theorem op_eqL0 (hu : X.A.units < cLine) : OpR X (compareOp .Eq) (rEqL0 X.K false) := by
  intro pins s σ H x y v u Q I rx ry h
  obtain ⟨a, b, xs, rfl, rfl, ha, hb, q⟩ := h
  cases rx
  cases ry
  obtain ⟨its, r1, p1, _⟩ := I.list ha
  obtain ⟨its2, r2, p2, _⟩ := I.list hb
  have z2 : its2 = [] := by cases r2; rfl
  subst z2
  have l1 := plainL_isList p1
  have l2 := plainL_isList p2
  cases xs with
  | nil =>
    cases r1
    exact SeqAt.eq_listAt (e := fun _ => true) l1 l2 rfl hu (fun j _ h2 => absurd h2 (by simp)) ⟨.bl _, H, I, rfl, q⟩
  | cons v xs => exact SeqAt.eq_list_lengthsAt l1 l2 (by rw [vals_size r1]; rfl) hu ⟨.bl _, H, I, rfl, q⟩
theorem op_neL0 (hu : X.A.units < cLine) : OpR X (compareOp .NotEq) (rEqL0 X.K true) := by
  intro pins s σ H x y v u Q I rx ry h
  obtain ⟨a, b, xs, rfl, rfl, ha, hb, q⟩ := h
  cases rx
  cases ry
  obtain ⟨its, r1, p1, _⟩ := I.list ha
  obtain ⟨its2, r2, p2, _⟩ := I.list hb
  have z2 : its2 = [] := by cases r2; rfl
  subst z2
  have l1 := plainL_isList p1
  have l2 := plainL_isList p2
  cases xs with
  | nil =>
    cases r1
    exact SeqAt.RcNeAt.lists (e := fun _ => true) l1 l2 rfl hu (fun j _ h2 => absurd h2 (by simp)) _ _ _ _ ⟨.bl _, H, I, rfl, q⟩
  | cons v xs => exact SeqAt.RcNeAt.lists_lengths l1 l2 (by rw [vals_size r1]; rfl) hu _ _ _ _ ⟨.bl _, H, I, rfl, q⟩
theorem isEmpty_reps {K : PySem.W.Frag} {θ : List Addr} {H : Hp} {xs : List D} {vs : List V} (r : Reps K θ H xs vs) : vs.isEmpty = xs.isEmpty := by
  have := r.length
  cases vs <;> cases xs <;> simp at this ⊢
theorem wo_eqL0 {xs : List D} {k l : Nat} (hu : X.A.units < cLine) (hk : ms[k]? = some (.lst xs)) (hl : ms[l]? = some (.lst [])) (q : Q (.bl xs.isEmpty) ms) : WO X B ms (compareOp .Eq) (.obj k) (.obj l) Q := WO.of (op_eqL0 hu) fun H θ x y S r1 r2 => by
  obtain ⟨a, e1, rfl⟩ := rep_obj r1
  obtain ⟨b, e2, rfl⟩ := rep_obj r2
  obtain ⟨vs, s, rs⟩ := S.obs k _ a hk e1
  obtain ⟨ws, s2, rs2⟩ := S.obs l _ b hl e2
  have := reps_nil rs2
  subst this
  exact ⟨a, b, vs, rfl, rfl, SqL.of s, SqL.of s2, by rw [isEmpty_reps rs, Bool.false_xor]; exact pv_same S mk_bl q⟩
theorem wo_neL0 {xs : List D} {k l : Nat} (hu : X.A.units < cLine) (hk : ms[k]? = some (.lst xs)) (hl : ms[l]? = some (.lst [])) (q : Q (.bl (!xs.isEmpty)) ms) : WO X B ms (compareOp .NotEq) (.obj k) (.obj l) Q := WO.of (op_neL0 hu) fun H θ x y S r1 r2 => by
  obtain ⟨a, e1, rfl⟩ := rep_obj r1
  obtain ⟨b, e2, rfl⟩ := rep_obj r2
  obtain ⟨vs, s, rs⟩ := S.obs k _ a hk e1
  obtain ⟨ws, s2, rs2⟩ := S.obs l _ b hl e2
  have := reps_nil rs2
  subst this
  exact ⟨a, b, vs, rfl, rfl, SqL.of s, SqL.of s2, by rw [isEmpty_reps rs, Bool.true_xor]; exact pv_same S mk_bl q⟩
end
theorem wt_imp {X : Cx} {B : Bs} {ds : List (Option D)} {ms : List Ob} {e : Expr} {Q Q' : Bool → List Ob → Prop} (h : WT X B ds ms e Q') (q : ∀ b m, Q' b m → Q b m) : WT X B ds ms e Q := .mk fun σ H θ S L =>
  h.bind S L fun b m H1 more z im S1 L1 => ⟨m, more, im, S1, q b m z⟩
/-! ## [f x for x in xs if p x] -/
theorem lc_filtE {α : Type} {X : Cx} {ds : List (Option D)} {scope : Scope} {vs : List Nat} {app : D → List (Option D) → Option (List (Option D))} {elt c : Expr} {G : List Ob → Prop} {m : List Ob} {Q : D → List Ob → Prop} {items : List D} (xs : List α) (e : α → D) (p : α → Bool) (f : α → D) (hi : items = xs.map e)
    (hz : xs.length ≤ sizeLine) (hG : G m)
    (step : ∀ a ∈ xs, ∃ ds', app (e a) (wipeD ds vs) = some ds' ∧ ∀ (B : Bs) (s : Shared) (H : Hp) (C : Addr) (cl : List (Str × Addr)) (fp : List Addr), WT (X.blk s H scope (compEnvC scope cl C X.env) fp) B ds' m c fun b m3 => b = p a ∧ m3 = m ∧
      (p a = true → ∀ (s : Shared) (H : Hp) (C : Addr) (cl : List (Str × Addr)) (fp : List Addr), WE (X.blk s H scope (compEnvC scope cl C X.env) fp) B ds' m elt fun y m4 => y = f a ∧ m4 = m))
    (q : Q (.obj m.length) (m ++ [.lst ((xs.filter p).map f)])) : LcWord X ds scope vs app [c] elt items G m Q := by
  subst hi
  refine ⟨fun i acc m' => acc = ((xs.take i).filter p).map f ∧ m' = m, ⟨rfl, rfl⟩, fun i acc m' ⟨_, h⟩ => h ▸ hG, fun i d acc m' hi ⟨ha, hm'⟩ => ?_, fun acc m' ⟨ha, hm'⟩ => ?_⟩
  · subst hm'
    rw [List.getElem?_map] at hi
    obtain ⟨a, ea, rfl⟩ := Option.map_eq_some_iff.mp hi
    have hlt : i < xs.length := (List.getElem?_eq_some_iff.mp ea).1
    have hmem : a ∈ xs := List.mem_of_getElem? ea
    obtain ⟨ds', h1, h2⟩ := step a hmem
    have hl : acc.length ≤ i := by
      rw [ha, List.length_map]
      refine Nat.le_trans (List.length_filter_le _ _) ?_
      rw [List.length_take]; omega
    have ht : (xs.take (i + 1)).filter p = (xs.take i).filter p ++ (if p a = true then [a] else []) := by
      rw [List.take_succ, ea, List.filter_append]
      congr 1
      show List.filter p [a] = _
      by_cases hp : p a = true
      · rw [if_pos hp, List.filter_cons_of_pos hp, List.filter_nil]
      · rw [if_neg hp, List.filter_cons_of_neg hp, List.filter_nil]
    refine ⟨by omega, ds', h1, fun B s H C cl fp => ?_⟩
    show WT _ _ _ _ _ _
    refine wt_imp (h2 B s H C cl fp) fun b m3 ⟨hb, hm3, h3⟩ => ⟨fun hbt s H C cl fp => ?_, fun hbf => ?_⟩
    · subst hm3
      rw [hbt] at hb
      refine we_imp (h3 hb.symm s H C cl fp) fun y m4 ⟨hy, ht4⟩ => .inl ⟨?_, ht4⟩
      rw [hy, ha, ht, if_pos hb.symm, List.map_append]; rfl
    · rw [hbf] at hb
      exact ⟨by rw [ha, ht, if_neg (by rw [← hb]; decide), List.append_nil], hm3⟩
  · subst hm'
    rw [ha, List.length_map, List.take_length]
    exact q
end VL

namespace VL
open PySem PySem.Spec PyProof.Rows L2

/-! ## objects that will not change any more -/
theorem objOk_get {P : Program} {w : World} {H : Hp} {h : Heap} {a : Addr} {o : HO} (x : ObjOk P w H h a o) : ∃ ob, h.get? a = some ob := by
  cases o with
  | lst xs => obtain ⟨_, _, _, _, e⟩ := x; exact ⟨_, e⟩
  | tup xs => obtain ⟨_, _, _, ob, e, _⟩ := x; exact ⟨_, e⟩
  | dK kvs => obtain ⟨_, _, _, _, o, _, _, e, _⟩ := x; exact ⟨_, e⟩
  | dT kvs => obtain ⟨_, _, _, _, o, _, _, e, _⟩ := x; exact ⟨_, e⟩
  | set S n => obtain ⟨o, _, _, _, e, _⟩ := x; exact ⟨_, e⟩
  | ins C dx fs => obtain ⟨_, _, _, e, _⟩ := x; exact ⟨_, e⟩
  | own y => obtain ⟨_, e⟩ := x; exact ⟨_, e⟩
  | xd fs => obtain ⟨_, ⟨_, _, _, e, _⟩, _⟩ := x; exact ⟨_, e⟩
  | rng lo hi => obtain ⟨_, _, _, e⟩ := x; exact ⟨_, e⟩
  | frz ob u => obtain ⟨e, _⟩ := x; exact ⟨_, e⟩
  | tbl ps => exact ⟨_, (show h.get? a = some _ from x)⟩
  | met f y => exact ⟨_, (show h.get? a = some _ from x)⟩
  | ext φ => obtain ⟨_, ⟨_, e⟩, _⟩ := x; exact ⟨_, e⟩
theorem inv_frz {X : Cx} {pins : List (Addr × Obj)} {σ : St} {H : Hp} {s : Shared} {a : Addr} {u : HO} (I : Inv X pins σ H s) (e : H a = some u) (mu : Mut (some u)) : ∃ o, Inv X pins σ (upd H a (.frz o u)) s := by
  obtain ⟨o, ho⟩ := objOk_get (I.hok a u e)
  have mu' : Mut (H a) := by rw [e]; exact mu
  have nown : ∀ c y, H c = some (.own y) → c ≠ a := fun c y r z => by subst z; rw [e] at r; cases r; exact mu
  have ntup : ∀ c xs, H c = some (.tup xs) → c ≠ a := fun c xs r z => by subst z; rw [e] at r; cases r; exact mu
  have nfrz : ∀ c o v, H c = some (.frz o v) → c ≠ a := fun c o v r z => by subst z; rw [e] at r; cases r; exact mu
  have ntbl : ∀ c ps, H c = some (.tbl ps) → c ≠ a := fun c ps r z => by subst z; rw [e] at r; cases r; exact mu
  have hok : HOk X.prog X.w (upd H a (.frz o u)) s.heap := I.hok.write (x := a) (e := a) mu' (.inl rfl) (fun b v _ q => q) ⟨o, ho⟩
    ⟨ho, (I.hok a u e).stay (fun b v _ q => q) (fun c r => by rw [upd_ne (nown c a r)]; exact r) fun c xs r => by rw [upd_ne (ntup c xs r)]; exact r⟩
  refine ⟨o, ?_⟩
  have := I.step (g' := s.gens) (d' := s.drawn) (t' := s.toks) (ch := []) (H' := upd H a (.frz o u)) (h' := s.heap) (fun _ z => nomatch z) (fun b o _ _ _ q _ => q) (fun b o _ _ _ q _ => ⟨o.slots, q⟩)
    (fun b v _ _ n => by rw [upd_ne]; exact n; rintro rfl; rw [e] at n; cases n) (fun b v _ q => ⟨v, q⟩)
    (fun b xs r => by rw [upd_ne (ntup b xs r)]; exact r) (fun b v w r => by rw [upd_ne (nfrz b v w r)]; exact r) (fun b ps r => ⟨#[], by rw [upd_ne (ntbl b ps r), Array.append_empty]; exact r⟩) (fun m q => q) hok I.bare
  exact this
section
variable {X : Cx} {B : Bs} {ds : List (Option D)} {ms : List Ob} {Q : D → List Ob → Prop} {a b c : Expr} {pos : Pos}
/-- the newest object is held fast -/
theorem we_frz {e : Expr} (F : Ob → D → Prop) (hF : ∀ ob d, F ob d → ∀ (K : PySem.W.Frag) (θ : List Addr) (H : Hp) (x : Addr), ObR K θ H x ob → ∃ u, H x = some u ∧ Mut (some u) ∧ imm u = false ∧ ∀ (n : Nat) (o : Obj), D.cl n d = true → Rep K (θ.take n) (upd H x (.frz o u)) d (.ref x))
    (h : WE X B ds ms e fun d m => ∃ m1 ob d', d = .obj m1.length ∧ m = m1 ++ [ob] ∧ ms.length ≤ m1.length ∧ m1.all (Ob.cl m1.length) = true ∧ D.cl m1.length d' = true ∧ F ob d' ∧ Q d' m1) : WE X B ds ms e Q := .mk fun σ H θ S L pins s I =>
  thn (h σ H θ S L pins s I) fun u s' ⟨v, H', I', rv, d, m, more, r, im, S', m1, ob, d', e1, e2, hle, c1, c2, hf, q⟩ => by
    subst e1; subst e2
    obtain ⟨x, ex, rfl⟩ := rep_obj r
    have hlen := S'.len
    rw [List.length_append, List.length_append] at hlen
    have hml : more.length = m1.length + 1 - θ.length := by
      have : [ob].length = 1 := rfl
      omega
    have hob := S'.obs m1.length ob x gL ex
    obtain ⟨w, hw, mu, hi, hr⟩ := hF ob d' hf _ _ _ _ hob
    obtain ⟨o, I2⟩ := inv_frz I' hw mu
    have ht : (θ ++ more).take m1.length = θ ++ more.take (m1.length - θ.length) := by
      rw [List.take_append, List.take_of_length_le (by rw [S.len]; exact hle)]
    have S2 := S'.cut (n := m1.length) (by simp) (by rw [List.take_left]; exact c1)
    rw [List.take_left] at S2
    have hx : x ∉ (θ ++ more).take m1.length := fun z => by
      obtain ⟨j, hj, e⟩ := List.getElem_of_mem z
      have hj' : j < m1.length := by rw [List.length_take] at hj; omega
      rw [List.getElem_take] at e
      obtain ⟨l2, e2⟩ := List.getElem?_eq_some_iff.mp ex
      have := (List.getElem_inj S'.nd).mp (e.trans e2.symm)
      omega
    obtain ⟨S3, im3⟩ := S2.other (o := .frz o w) hx (S'.new x (List.mem_of_getElem? ex)) hw hi
    refine ⟨.ref x, upd H' x (.frz o w), I2, rv, d', m1, more.take (m1.length - θ.length), ?_, im.trans im3, ?_, q⟩
    · rw [← ht]; exact hr _ _ c2
    · rw [← ht]; exact S3
def FrzL : Ob → D → Prop := fun ob d => ∃ xs, ob = .lst xs ∧ d = .rol xs
theorem frzL_ok : ∀ ob d, FrzL ob d → ∀ (K : PySem.W.Frag) (θ : List Addr) (H : Hp) (x : Addr), ObR K θ H x ob → ∃ u, H x = some u ∧ Mut (some u) ∧ imm u = false ∧ ∀ (n : Nat) (o : Obj), D.cl n d = true → Rep K (θ.take n) (upd H x (.frz o u)) d (.ref x) := by
  rintro _ _ ⟨xs, rfl, rfl⟩ K θ H x ⟨vs, hx, rs⟩
  refine ⟨_, hx, trivial, rfl, fun n o c => ?_⟩
  unfold Rep
  exact ⟨x, vs, rfl, .inl ⟨o, upd_same⟩, Reps.mono (Le.refl _) (ImmP.mut hx rfl) _ _ (Reps.cutA _ _ (by simpa [D.cl] using c) rs)⟩
theorem repKV_split {κ : Type} {K : PySem.W.Frag} {θ : List Addr} {H : Hp} : ∀ {kvs : List (κ × D)} {vs : List (κ × V)}, RepKV K θ H kvs vs → ∃ ws, vs = (kvs.map (·.1)).zip ws ∧ Reps K θ H (kvs.map (·.2)) ws
  | [], _, h => by
    have : _ = [] := h
    subst this
    exact ⟨[], rfl, mk_nil⟩
  | (k, d) :: r, _, h => by
    obtain ⟨v, vs', rfl, r1, rs⟩ := h
    obtain ⟨ws, rfl, r2⟩ := repKV_split rs
    exact ⟨v :: ws, rfl, mk_cons r1 r2⟩
def FrzD : Ob → D → Prop := fun ob d => ∃ kvs : List (Key × D), ob = .dK kvs ∧ d = .rod (kvs.map (·.1)) (kvs.map (·.2))
theorem frzD_ok : ∀ ob d, FrzD ob d → ∀ (K : PySem.W.Frag) (θ : List Addr) (H : Hp) (x : Addr), ObR K θ H x ob → ∃ u, H x = some u ∧ Mut (some u) ∧ imm u = false ∧ ∀ (n : Nat) (o : Obj), D.cl n d = true → Rep K (θ.take n) (upd H x (.frz o u)) d (.ref x) := by
  rintro _ _ ⟨kvs, rfl, rfl⟩ K θ H x ⟨vs, hx, rs⟩
  obtain ⟨ws, rfl, r2⟩ := repKV_split rs
  refine ⟨_, hx, trivial, rfl, fun n o c => ?_⟩
  unfold Rep
  exact ⟨x, ws, rfl, ⟨o, upd_same⟩, by simp, Reps.mono (Le.refl _) (ImmP.mut hx rfl) _ _ (Reps.cutA _ _ (by simpa [D.cl] using c) r2)⟩
theorem we_frzL {e : Expr} (h : WE X B ds ms e fun d m => ∃ m1 xs, d = .obj m1.length ∧ m = m1 ++ [.lst xs] ∧ ms.length ≤ m1.length ∧ m1.all (Ob.cl m1.length) = true ∧ imAll xs = true ∧ Q (.rol xs) m1) : WE X B ds ms e Q :=
  we_frz FrzL frzL_ok (we_imp h fun d m ⟨m1, xs, e1, e2, h1, h2, h3, q⟩ => ⟨m1, .lst xs, .rol xs, e1, e2, h1, h2, by unfold D.cl; exact im_clA h3, ⟨xs, rfl, rfl⟩, q⟩)
theorem we_frzD {e : Expr} (h : WE X B ds ms e fun d m => ∃ m1 kvs, d = .obj m1.length ∧ m = m1 ++ [.dK kvs] ∧ ms.length ≤ m1.length ∧ m1.all (Ob.cl m1.length) = true ∧ imAll (kvs.map (·.2)) = true ∧ Q (.rod (kvs.map (·.1)) (kvs.map (·.2))) m1) : WE X B ds ms e Q :=
  we_frz FrzD frzD_ok (we_imp h fun d m ⟨m1, kvs, e1, e2, h1, h2, h3, q⟩ => ⟨m1, .dK kvs, _, e1, e2, h1, h2, by unfold D.cl; exact im_clA h3, ⟨kvs, rfl, rfl⟩, q⟩)
end
end VL

namespace VL
open PySem PySem.Spec PyProof.Rows L2

/-! ## values -/
mutual
def D.val : D → Bool
  | .tup ds => valAll ds
  | .rol ds => valAll ds
  | .rod _ ds => valAll ds
  | .obj _ => false
  | .ref _ => false
  | .ty _ => false
  | _ => true
def valAll : List D → Bool
  | [] => true
  | d :: ds => D.val d && valAll ds
end
theorem valAll_iff {ds : List D} : valAll ds = true ↔ ∀ d ∈ ds, d.val = true := by
  induction ds with
  | nil => simp [valAll]
  | cons d ds ih => simp [valAll, ih]
mutual
theorem val_im : ∀ {d : D}, d.val = true → d.im = true
  | .non, _ => rfl
  | .bl _, _ => rfl
  | .int _, _ => rfl
  | .str _, _ => rfl
  | .ref _, h => by simp [D.val] at h
  | .ty _, h => by simp [D.val] at h
  | .obj _, h => by simp [D.val] at h
  | .tup ds, h => by unfold D.im; exact valAll_im (by simpa [D.val] using h)
  | .rol ds, h => by unfold D.im; exact valAll_im (by simpa [D.val] using h)
  | .rod _ ds, h => by unfold D.im; exact valAll_im (by simpa [D.val] using h)
theorem valAll_im : ∀ {ds : List D}, valAll ds = true → imAll ds = true
  | [], _ => rfl
  | d :: ds, h => by
    have h' : d.val = true ∧ valAll ds = true := by simpa [valAll] using h
    unfold imAll; rw [val_im h'.1, valAll_im h'.2]; rfl
end
def isIntB : D → Bool
  | .int _ => true
  | .bl _ => true
  | _ => false
def isBlB : D → Bool
  | .bl _ => true
  | _ => false
def isTupB : D → Bool
  | .tup _ => true
  | _ => false
def isStrB : D → Bool
  | .str _ => true
  | _ => false
def tyK : D → Bool
  | .ref _ => false
  | .ty _ => false
  | .obj _ => false
  | _ => true
theorem val_tyK {d : D} (h : d.val = true) : tyK d = true := by cases d <;> first | rfl | (simp [D.val] at h; done)
section
variable {X : Cx} {B : Bs} {ds : List (Option D)} {ms : List Ob} {Q : D → List Ob → Prop} {a b c : Expr} {pos : Pos}
theorem we_not (h : WE X B ds ms a fun d m => ∃ k, d = .bl k ∧ Q (.bl (!k)) m) : WE X B ds ms (.UnaryOp .Not a pos) Q :=
  WE.pe (pe_not pe_can) fun σ H θ S L => h.bind S L fun d m v H1 more ⟨k, e, q⟩ r im S1 L1 => by
    subst e
    exact ⟨k, rep_bl r, PV.trans im (pv_same S1 mk_bl q)⟩
theorem wc_isiI {d : D} (hv : tyK d = true) (q : Q (.bl (isIntB d)) ms) : WC X B ms (.builtin "isinstance") [d, .ty "int"] Q := by
  cases d with
  | non => exact wc_isi (k := false) rfl (by decide +kernel) q
  | bl _ => exact wc_isi (k := true) rfl (by decide +kernel) q
  | int _ => exact wc_isi (k := true) rfl (by decide +kernel) q
  | str _ => exact wc_isi (k := false) rfl (by decide +kernel) q
  | tup _ => exact wc_isi (k := false) rfl (by decide +kernel) q
  | rol _ => exact wc_isi (k := false) rfl (by decide +kernel) q
  | rod _ _ => exact wc_isi (k := false) rfl (by decide +kernel) q
  | _ => simp [tyK] at hv
theorem wc_isiB {d : D} (hv : tyK d = true) (q : Q (.bl (isBlB d)) ms) : WC X B ms (.builtin "isinstance") [d, .ty "bool"] Q := by
  cases d with
  | non => exact wc_isi (k := false) rfl (by decide +kernel) q
  | bl _ => exact wc_isi (k := true) rfl (by decide +kernel) q
  | int _ => exact wc_isi (k := false) rfl (by decide +kernel) q
  | str _ => exact wc_isi (k := false) rfl (by decide +kernel) q
  | tup _ => exact wc_isi (k := false) rfl (by decide +kernel) q
  | rol _ => exact wc_isi (k := false) rfl (by decide +kernel) q
  | rod _ _ => exact wc_isi (k := false) rfl (by decide +kernel) q
  | _ => simp [tyK] at hv
theorem wc_isiT {d : D} (hv : tyK d = true) (q : Q (.bl (isTupB d)) ms) : WC X B ms (.builtin "isinstance") [d, .ty "tuple"] Q := by
  cases d with
  | non => exact wc_isi (k := false) rfl (by decide +kernel) q
  | bl _ => exact wc_isi (k := false) rfl (by decide +kernel) q
  | int _ => exact wc_isi (k := false) rfl (by decide +kernel) q
  | str _ => exact wc_isi (k := false) rfl (by decide +kernel) q
  | tup _ => exact wc_isi (k := true) rfl (by decide +kernel) q
  | rol _ => exact wc_isi (k := false) rfl (by decide +kernel) q
  | rod _ _ => exact wc_isi (k := false) rfl (by decide +kernel) q
  | _ => simp [tyK] at hv
theorem wc_isiS {d : D} (hv : tyK d = true) (q : Q (.bl (isStrB d)) ms) : WC X B ms (.builtin "isinstance") [d, .ty "str"] Q := by
  cases d with
  | non => exact wc_isi (k := false) rfl (by decide +kernel) q
  | bl _ => exact wc_isi (k := false) rfl (by decide +kernel) q
  | int _ => exact wc_isi (k := false) rfl (by decide +kernel) q
  | str _ => exact wc_isi (k := true) rfl (by decide +kernel) q
  | tup _ => exact wc_isi (k := false) rfl (by decide +kernel) q
  | rol _ => exact wc_isi (k := false) rfl (by decide +kernel) q
  | rod _ _ => exact wc_isi (k := false) rfl (by decide +kernel) q
  | _ => simp [tyK] at hv
end
/-- a tuple is never longer than a line -/
theorem we_szT {X : Cx} {B : Bs} {ds : List (Option D)} {ms : List Ob} {Q : D → List Ob → Prop} {e : Expr} (h : WE X B ds ms e fun d m => (∀ xs, d = .tup xs → xs.length ≤ sizeLine) → Q d m) : WE X B ds ms e Q := .mk fun σ H θ S L pins s I =>
  thn (h σ H θ S L pins s I) fun u s' ⟨v, H', I', rv, d, m, more, r, im, S', q⟩ => ⟨v, H', I', rv, d, m, more, r, im, S', q fun xs e => by
    subst e
    obtain ⟨a, vs, rfl, s0, rs⟩ := rep_tup r
    obtain ⟨its, _, _, hz⟩ := I'.tuple s0
    rw [← rs.length]; exact hz⟩
theorem wi_tupZ {X : Cx} {B : Bs} {ds : List (Option D)} {ms : List Ob} {tg e : Expr} {R : List D → (List Ob → Prop) → List Ob → Prop} (h : WE X B ds ms e fun d m => ∃ xs, d = .tup xs ∧ (xs.length ≤ sizeLine → R xs (fun _ => True) m)) : WI X B ds ms tg e R :=
  wi_tup (we_szT (we_imp h fun d m ⟨xs, e, q⟩ hs => ⟨xs, e, q (hs xs e)⟩))
/-! ## whether a value is a comparison -/
def intInD (lo hi : Int) : D → Bool
  | .int i => decide (lo ≤ i) && decide (i ≤ hi)
  | _ => false
def isIntP : List D → D → Prop := fun dl v => ∃ d lo hi, d.val = true ∧ dl = [d, .int lo, .int hi] ∧ v = .bl (intInD lo hi d)
theorem len_isIntP : ∀ dl v, isIntP dl v → dl.length = 3 := by rintro dl v ⟨d, lo, hi, _, rfl, _⟩; rfl
theorem im_isIntP : ∀ dl v, isIntP dl v → v.im = true := by rintro dl v ⟨d, lo, hi, _, _, rfl⟩; rfl
def wideN (L : Nat) : Nat := (colsN L).length
/-- whether a value is a row for L letters and n states -/
def isRowD (L n : Nat) : D → Bool
  | .tup xs => decide (xs.length = wideN L) && (xs.filter fun d => !intInD 0 ((n : Int) - 1) d).isEmpty
  | _ => false
def isMarksD (n : Nat) : D → Bool
  | .tup xs => decide (xs.length = n) && (xs.filter fun d => !intInD (-1) 1 d).isEmpty
  | _ => false
def badD (x : D) (s : Str) : D := .tup [x, .str s]
def lettersOf : D → Nat
  | .int i => i.toNat
  | _ => 0
def errR (L : Nat) (rs : List D) (m : D) : D := match rs.findIdx? fun r => !isRowD L rs.length r with
  | some k => badD (.int (k : Nat)) "row"
  | none => if isMarksD rs.length m then .non else badD .non "verdicts"
def err3 (l r m : D) : D := if intInD 1 3 l = false then badD .non "letters" else match r with
  | .tup rs => if rs.isEmpty then badD .non "rows" else errR (lettersOf l) rs m
  | _ => badD .non "rows"
def errD : D → D
  | .tup [l, r, m] => err3 l r m
  | _ => badD .non "comp"
theorem err_letters {l r m : D} (h : intInD 1 3 l = false) : errD (.tup [l, r, m]) = badD .non "letters" := by
  show err3 l r m = _
  unfold err3
  rw [if_pos h]
theorem err_rows {l r m : D} (h : intInD 1 3 l = true) (hr : ∀ rs, r = .tup rs → rs = []) : errD (.tup [l, r, m]) = badD .non "rows" := by
  show err3 l r m = _
  unfold err3
  rw [if_neg (by rw [h]; decide)]
  split
  · rw [hr _ rfl]; rfl
  · rfl
theorem err_in {L : Nat} {rs : List D} {m : D} (h : intInD 1 3 (.int L) = true) (hr : rs ≠ []) : errD (.tup [.int L, .tup rs, m]) = errR L rs m := by
  show err3 (.int (L : Nat)) (.tup rs) m = _
  unfold err3
  rw [if_neg (by rw [h]; decide)]
  show (if rs.isEmpty = true then _ else _) = _
  rw [if_neg (by simpa using hr)]
  show errR (Int.toNat (L : Nat)) rs m = _
  rw [Int.toNat_natCast]
theorem err_comp {d : D} (h : ¬ ∃ l r m, d = .tup [l, r, m]) : errD d = badD .non "comp" := by
  unfold errD
  split
  · exact absurd ⟨_, _, _, rfl⟩ h
  · rfl
theorem errR_row {L : Nat} {rs : List D} {m : D} {k : Nat} {r : D} (hk : rs[k]? = some r) (hb : isRowD L rs.length r = false) (hp : ∀ j x, j < k → rs[j]? = some x → isRowD L rs.length x = true) : errR L rs m = badD (.int (k : Nat)) "row" := by
  unfold errR
  have e : (rs.findIdx? fun r => !isRowD L rs.length r) = some k := by
    obtain ⟨hl, e⟩ := List.getElem?_eq_some_iff.mp hk
    refine List.findIdx?_eq_some_iff_getElem.mpr ⟨hl, by rw [e, hb]; rfl, fun j hj => ?_⟩
    rw [hp j _ hj (List.getElem?_eq_getElem (by omega))]; decide
  rw [e]
theorem errR_none {L : Nat} {rs : List D} {m : D} (hp : ∀ x ∈ rs, isRowD L rs.length x = true) : errR L rs m = if isMarksD rs.length m then .non else badD .non "verdicts" := by
  unfold errR
  have e : (rs.findIdx? fun r => !isRowD L rs.length r) = none := by
    refine List.findIdx?_eq_none_iff.mpr fun x hx => ?_
    rw [hp x hx]; rfl
  rw [e]
def isRowP : List D → D → Prop := fun dl v => ∃ (d : D) (L n : Nat), d.val = true ∧ 1 ≤ L ∧ L ≤ 3 ∧ dl = [d, .int L, .int n] ∧ v = .bl (isRowD L n d)
theorem len_isRowP : ∀ dl v, isRowP dl v → dl.length = 3 := by rintro dl v ⟨d, lo, hi, _, _, _, rfl, _⟩; rfl
theorem im_isRowP : ∀ dl v, isRowP dl v → v.im = true := by rintro dl v ⟨d, lo, hi, _, _, _, _, rfl⟩; rfl
def isMarksP : List D → D → Prop := fun dl v => ∃ (d : D) (n : Nat), d.val = true ∧ dl = [d, .int n] ∧ v = .bl (isMarksD n d)
theorem len_isMarksP : ∀ dl v, isMarksP dl v → dl.length = 2 := by rintro dl v ⟨d, lo, _, rfl, _⟩; rfl
theorem im_isMarksP : ∀ dl v, isMarksP dl v → v.im = true := by rintro dl v ⟨d, lo, _, _, rfl⟩; rfl
theorem val_tup {xs : List D} (h : (D.tup xs).val = true) : ∀ d ∈ xs, d.val = true := valAll_iff.mp (by simpa [D.val] using h)
theorem wideN_eq {L : Nat} (h1 : 1 ≤ L) (h3 : L ≤ 3) : wideN L = (L + 1) * (L + 1) - 1 := cols_len h1 h3
def errP : List D → D → Prop := fun dl v => ∃ d : D, d.val = true ∧ dl = [d] ∧ v = errD d
def errP_len : ∀ dl v, errP dl v → dl.length = 1 := by rintro dl v ⟨d, _, rfl, _⟩; rfl
theorem im_bad {x : D} {s : Str} (h : x.im = true) : (badD x s).im = true := by
  show (x.im && (D.im (.str s) && true)) = true
  rw [h]; rfl
theorem errP_im : ∀ dl v, errP dl v → v.im = true := by
  rintro dl v ⟨d, _, _, rfl⟩
  unfold errD err3 errR
  split
  · split
    · rfl
    · split
      · split
        · rfl
        · split
          · rfl
          · split <;> rfl
      · rfl
  · rfl
end VL

namespace VL
open PySem PySem.Spec PyProof.Rows L2
/-! ## t[::-1] -/
section
variable {prog : Program} {w : World} {A : Around} {E : Value → Shared → Prop} {s : Shared}
theorem applied_rev {sl : Addr} {vs : Value} {n : Nat} {Q : Int × Int × Nat → Shared → Prop} (hs : s.heap.IsSliceOf sl .none .none vs) (ps : IsPart vs (some (-1)))
    (h : Q ((n : Int) - 1, -1, n) s) : wpAny (model prog w) A (Builtin.Slice.sliceApplied (.ref sl) (pure (n : Int))) Q E s := by
  obtain ⟨os, hos, hcs, hds⟩ := id hs
  unfold Builtin.Slice.sliceApplied Builtin.Slice.sliceFields
  refine wpAny_bind (wpAny_bind (wpAny_field hos hds (x := .none) rfl (wpAny_bind (wpAny_field hos hds (x := .none) rfl (wpAny_bind (wpAny_field hos hds (x := vs) rfl (wpAny_pure ?_)))))))
  refine wpAny_bind (HT.slicePart_ ps ?_)
  show wpAny _ _ (if ((-1 : Int) == 0) = true then _ else _) _ _ s
  rw [if_neg (by decide)]
  refine wpAny_bind (HT.slicePart_ .none (wpAny_bind (HT.slicePart_ .none (wpAny_bind (wpAny_pure ?_)))))
  show wpAny _ _ (match Builtin.Slice.sliceAdjust none none (-1) (n : Int) with | (lo, hi) => pure (lo, (-1 : Int), Builtin.Slice.slicePlaces lo hi (-1))) _ _ s
  have e : Builtin.Slice.sliceAdjust none none (-1) (n : Int) = ((n : Int) - 1, -1) := rfl
  rw [e]
  have e2 : Builtin.Slice.slicePlaces ((n : Int) - 1) (-1) (-1) = n := by
    unfold Builtin.Slice.slicePlaces
    rw [if_neg (by decide)]
    show (if (n : Int) - 1 > -1 then ((n : Int) - 1 - -1 - 1) / 1 + 1 else 0).toNat = n
    split <;> omega
  show wpAny _ _ (pure ((n : Int) - 1, (-1 : Int), Builtin.Slice.slicePlaces ((n : Int) - 1) (-1) (-1))) _ _ s
  rw [e2]
  exact wpAny_pure h
theorem rev_pick (xs : Array Value) : ((List.range xs.size).filterMap fun (k : Nat) => xs[((xs.size : Int) - 1 + (k : Int) * (-1)).toNat]?).toArray = xs.toList.reverse.toArray := by
  have e : (fun (k : Nat) => xs[((xs.size : Int) - 1 + (k : Int) * (-1)).toNat]?) = (fun j => xs[j]?) ∘ fun k => xs.size - 1 - k := by
    funext k
    have : ((xs.size : Int) - 1 + (k : Int) * (-1)).toNat = xs.size - 1 - k := by omega
    rw [this]; rfl
  rw [e, ← List.filterMap_map, PySem.W.krv_range, List.filterMap_reverse, PySem.W.krv_all]
theorem getItem_tuple_rev {t sl : Addr} {items : Array Value} {vs : Value} {Q : Value → Shared → Prop} (ht : IsTup s.heap t items) (hs : s.heap.IsSliceOf sl .none .none vs) (ps : IsPart vs (some (-1)))
    (h : Q (.ref s.heap.objs.size) { s with heap := s.heap.push { cls := .type "tuple", data := .seq items.toList.reverse.toArray } })
    (hsz : items.size ≤ sizeLine) : wpAny (model prog w) A (getItem (.ref t) (.ref sl)) Q E s := by
  have htake : sizeOk (.seq items.toList.reverse.toArray) := by
    show items.toList.reverse.toArray.size ≤ sizeLine
    rw [List.size_toArray, List.length_reverse, Array.length_toList]; exact hsz
  obtain ⟨os, hos, hcs, hds⟩ := id hs
  have hTs : s.TypeIs (.ref sl) "slice" := ⟨os, hos, hcs⟩
  unfold getItem
  try with_reducible refine wpAny_holding ?_
  first | refine wpAny_bind (wpAny_pure ?_) | skip
  refine wpAny_bind (wpAny_sequenceKey ht.typeIs (by decide) ?_)
  refine wpAny_bind (wpAny_callSpecial?_slot (name := Str.ofString "__getitem__") ht.typeIs PyProof.Rows.slot_tuple_getitem
    (wpAny_call_entry PyProof.Rows.slot_tuple_getitem ht.typeIs PyProof.Rows.entry_tuple_getitem ?_ (PyProof.Rows.args_tuple_getitem _ _)))
  show wpAny _ _ (Builtin.Tuple.tupleItemsOf (.ref t) >>= _) _ _ s
  refine wpAny_bind (PyProof.Rows.tupleItemsOf_ ht ?_)
  refine wpAny_bind (wpAny_typeOf hTs ?_)
  rw [if_pos (by decide)]
  refine wpAny_bind (applied_rev hs ps ?_)
  have hno : ¬ ((((items.size : Int) - 1) == 0 && (-1 : Int) == 1 && items.size == items.size) = true) := by
    intro q
    rw [Bool.and_eq_true, Bool.and_eq_true] at q
    have q1 : (-1 : Int) = 1 := eq_of_beq q.1.2
    omega
  show wpAny _ _ (if (((items.size : Int) - 1) == 0 && (-1 : Int) == 1 && items.size == items.size) = true then _ else _) _ _ s
  rw [if_neg hno, rev_pick]
  first
    | exact wpAny_bind (m := Builtin.Tuple.tupleExact _) (wpAny_newObj_type (wpAny_pure ⟨_, rfl, wpAny_pure h⟩) htake)
    | exact wpAny_bind (m := Builtin.Tuple.tupleExact _) (wpAny_newObj_type (wpAny_bind (wpAny_pure (wpAny_pure ⟨_, rfl, wpAny_pure h⟩))) htake)
    | exact wpAny_bind (wpAny_bind (m := Builtin.Tuple.tupleExact _) (wpAny_newObj_type (wpAny_pure (wpAny_pure ⟨_, rfl, wpAny_pure h⟩)) htake))
    | exact wpAny_bind (wpAny_bind (m := Builtin.Tuple.tupleExact _) (wpAny_newObj_type (wpAny_pure ⟨_, rfl, wpAny_pure h⟩) htake))
end

def tRevT (K : PySem.W.Frag) (te : TE) : TE := fun σ H Q => te σ H fun x H1 => (∃ a xs, x = .ref a ∧ SqT K H1 a xs ∧ ∀ p, H1 p = none → Q (.ref p) (upd H1 p (.tup xs.reverse))) ∨ (∃ z : Str, x = .str z ∧ z.length ≤ sizeLine ∧ Q (.str ⟨z.cps.toList.reverse.toArray⟩) H1)
theorem str_rev_pick (z : Str) : ((Builtin.Str.strSliceIndices none none (-1) z.length).filterMap (z.cps[·]?)).toArray = z.cps.toList.reverse.toArray := by
  have e : Builtin.Str.strSliceIndices none none (-1) z.length = (List.range z.length).map fun k => z.length - 1 - k := by
    show sliceRange ((z.length : Int) - 1) (-1) (-1) = _
    exact PySem.W.krv_sliceRange z.length
  rw [e, PySem.W.krv_range, List.filterMap_reverse]
  have := PySem.W.krv_all z.cps
  show ((List.range z.cps.size).filterMap (z.cps[·]?)).reverse.toArray = _
  rw [this]
theorem pe_revT {X : Cx} {e : Expr} {te : TE} {k : Nat} {p1 p2 p3 pos : Pos} (he : PE X e te) : PE X (.Subscript e (.Slice none none (some (.UnaryOp .USub (.Constant (.int 1) k p1) p2)) p3) pos) (tRevT X.K te) := by
  refine ⟨fun pins s σ H Q I h => ?_⟩
  refine Subscript_ (thn (he.run pins s σ H _ I h) fun v s1 ⟨x, H1, I1, r1, q1⟩ => ?_)
  have hst : PO X (some (.UnaryOp .USub (.Constant (.int 1) k p1) p2)) (tPart (tUn (rU fun i => .int (-i)) (tC (.int 1)))) := po_some (pe_un un_neg pe_int)
  refine wpAny_Slice (thn (po_none.run pins s1 σ H1 (fun o H2 => o = none ∧ H2 = H1) I1 ⟨rfl, rfl⟩) fun vl s2 ⟨l, H2, I2, pl, el, e2⟩ => ?_)
  subst el e2
  refine thn (po_none.run pins s2 σ H2 (fun o H3 => o = none ∧ H3 = H2) I2 ⟨rfl, rfl⟩) fun vu s3 ⟨u, H3, I3, pu, eu, e3⟩ => ?_
  subst eu e3
  refine thn (hst.run pins s3 σ H3 (fun o H4 => o = some (-1) ∧ H4 = H3) I3 ⟨1, rfl, -1, rfl, rfl, rfl⟩) fun vs s4 ⟨o, H4, I4, ps, eo, e4⟩ => ?_
  subst eo e4
  have I5 : Inv X pins σ H4 { s4 with heap := s4.heap.push { cls := .type "slice", data := .fields #[vl, vu, vs] } } := I4.kept (t' := s4.toks) fun b ob q => Heap.get?_push_of_some _ q
  cases pl
  cases pu
  rcases q1 with ⟨a, xs, ex, hx, q⟩ | ⟨z, ez, hz, q⟩
  · subst ex
    cases r1
    obtain ⟨its, r, ht, hz⟩ := I5.tuple hx
    have hlen := r.length
    show wpAny (model X.prog X.w) X.A (subscriptTail e (.Slice none none (some (.UnaryOp .USub (.Constant (.int 1) k p1) p2)) p3) (.ref a) (.ref s4.heap.objs.size)) (EP X pins σ Q) X.xe { s4 with heap := s4.heap.push { cls := .type "slice", data := .fields #[.none, .none, vs] } }
    refine tail_any (ops := [.ref a, .ref s4.heap.objs.size]) ht.typeIs (PyProof.Rows.slot_tuple_getitem.lookup) ?_ (by with_unfolding_all rfl)
    refine getItem_tuple_rev ht (Heap.IsSliceOf.new _ .none .none vs) ps ?_ (by rw [List.size_toArray]; omega)
    refine ⟨.ref _, _, I5.laid (t' := s4.toks) (o := .tup xs.reverse) (fun b ob q => Heap.get?_push_of_some _ q) (Nat.le_refl _) ?_, rfl, q _ (I5.hok.fresh (Nat.le_refl _))⟩
    exact ⟨by rw [List.length_reverse]; exact hz, _, r.reverse, _, Heap.get?_push_size _ rfl, rfl, 0, rfl⟩
  · subst ez
    obtain ⟨t, rfl⟩ := r1
    obtain ⟨p, rfl, ep⟩ := IsPart.raw ps
    show wpAny (model X.prog X.w) X.A (subscriptTail e (.Slice none none (some (.UnaryOp .USub (.Constant (.int 1) k p1) p2)) p3) (.str z t) (.ref s4.heap.objs.size)) (EP X pins σ Q) X.xe { s4 with heap := s4.heap.push { cls := .type "slice", data := .fields #[.none, .none, partValue p] } }
    refine tail_any (ops := [.str z t, .ref s4.heap.objs.size]) (typeIs_str _ _ _) (F.slot_str_getitem.lookup) ?_ (by with_unfolding_all rfl)
    refine wpAny_getItem_str_slice (l := none) (u := none) (st := p) ⟨_, Heap.get?_push_size _ rfl, rfl, rfl⟩ (by rw [ep]; rfl) ?_
    unfold sliceMade slicePicked
    rw [ep]
    show Made.post (if ((-1 : Int) == 1 && _) = true then _ else _) (EP X pins σ Q) _
    rw [if_neg (by rw [show ((-1 : Int) == 1) = false from rfl, Bool.false_and]; decide)]
    show Made.post (Made.str ⟨((Builtin.Str.strSliceIndices none none (-1) z.length).filterMap (z.cps[·]?)).toArray⟩) (EP X pins σ Q) _
    rw [str_rev_pick]
    refine ⟨?_, .str ⟨z.cps.toList.reverse.toArray⟩, _, I5.tok _, ⟨_, rfl⟩, q⟩
    show z.cps.toList.reverse.toArray.size ≤ sizeLine
    rw [List.size_toArray, List.length_reverse, Array.length_toList]; exact hz
section
variable {X : Cx} {B : Bs} {ds : List (Option D)} {ms : List Ob} {Q : D → List Ob → Prop} {a b c : Expr} {pos : Pos}
theorem wc_lenTZ {xs : List D} (q : xs.length ≤ sizeLine → Q (.int xs.length) ms) : WC X B ms (.builtin "len") [.tup xs] Q := fun H θ vs S r pins s σ us I rx => by
  obtain ⟨v, rfl, r1⟩ := reps1 r
  obtain ⟨a, ws, rfl, s0, rs⟩ := rep_tup r1
  obtain ⟨_, _, _, hz⟩ := I.tuple s0
  exact wc_lenT (q (by rw [← rs.length]; exact hz)) H θ _ S r pins s σ us I rx
theorem we_revT {k : Nat} {p1 p2 p3 : Pos} (h : WE X B ds ms a fun d m => ∃ xs, d = .tup xs ∧ Q (.tup xs.reverse) m) :
    WE X B ds ms (.Subscript a (.Slice none none (some (.UnaryOp .USub (.Constant (.int 1) k p1) p2)) p3) pos) Q :=
  WE.pe (pe_revT pe_can) fun σ H θ S L => h.bind S L fun d m v H1 more q1 r1 im1 S1 L1 => by
    obtain ⟨xs, rfl, q1⟩ := q1
    obtain ⟨p, vs, rfl, s, rs⟩ := rep_tup r1
    exact .inl ⟨p, vs, rfl, s, fun l hl => (pv_tup S1 rs.reverse hl q1).trans im1⟩
theorem we_revS {k : Nat} {p1 p2 p3 : Pos} (h : WE X B ds ms a fun d m => ∃ z : Str, d = .str z ∧ z.length ≤ sizeLine ∧ Q (.str ⟨z.cps.toList.reverse.toArray⟩) m) :
    WE X B ds ms (.Subscript a (.Slice none none (some (.UnaryOp .USub (.Constant (.int 1) k p1) p2)) p3) pos) Q :=
  WE.pe (pe_revT pe_can) fun σ H θ S L => h.bind S L fun d m v H1 more q1 r1 im1 S1 L1 => by
    obtain ⟨z, rfl, hz, q1⟩ := q1
    exact .inr ⟨z, rep_str r1, hz, PV.trans im1 (pv_same S1 mk_str q1)⟩
end
theorem line62 {n : Nat} (h : n ≤ sizeLine) : -(2 ^ 62) ≤ (n : Int) ∧ (n : Int) < 2 ^ 62 := by
  have : n ≤ 16777216 := h
  omega
theorem mkS_rev (l : List Nat) : (⟨(mkS l).cps.toList.reverse.toArray⟩ : Str) = mkS l.reverse := by rw [mkS_cps]; rfl
end VL

namespace VL
open PySem PySem.Spec PyProof.Rows L2
/-! ## how long a value's tuples are -/
mutual
def D.szB (n : Nat) : D → Bool
  | .tup ds => decide (ds.length ≤ n) && szAll n ds
  | _ => true
def szAll (n : Nat) : List D → Bool
  | [] => true
  | d :: ds => D.szB n d && szAll n ds
end
theorem szAll_iff {n : Nat} {ds : List D} : szAll n ds = true ↔ ∀ d ∈ ds, d.szB n = true := by
  induction ds with
  | nil => simp [szAll]
  | cons d ds ih => simp [szAll, ih]
mutual
theorem szB_mono {n k : Nat} (h : n ≤ k) : ∀ {d : D}, d.szB n = true → d.szB k = true
  | .tup ds, e => by
    unfold D.szB at e ⊢
    rw [Bool.and_eq_true] at e ⊢
    exact ⟨decide_eq_true (Nat.le_trans (of_decide_eq_true e.1) h), szAll_mono h e.2⟩
  | .non, _ => rfl
  | .bl _, _ => rfl
  | .int _, _ => rfl
  | .str _, _ => rfl
  | .ref _, _ => rfl
  | .ty _, _ => rfl
  | .obj _, _ => rfl
  | .rol _, _ => rfl
  | .rod _ _, _ => rfl
theorem szAll_mono {n k : Nat} (h : n ≤ k) : ∀ {ds : List D}, szAll n ds = true → szAll k ds = true
  | [], _ => rfl
  | d :: ds, e => by
    unfold szAll at e ⊢
    rw [Bool.and_eq_true] at e ⊢
    exact ⟨szB_mono h e.1, szAll_mono h e.2⟩
end
theorem val_mk {xs : List D} (h : ∀ d ∈ xs, d.val = true) : (D.tup xs).val = true := by unfold D.val; exact valAll_iff.mpr h
theorem val_mkL {xs : List D} (h : ∀ d ∈ xs, d.val = true) : (D.rol xs).val = true := by unfold D.val; exact valAll_iff.mpr h
theorem sz_mk {n : Nat} {xs : List D} (hl : xs.length ≤ n) (h : ∀ d ∈ xs, d.szB n = true) : (D.tup xs).szB n = true := by
  unfold D.szB
  rw [decide_eq_true hl, Bool.true_and]; exact szAll_iff.mpr h
theorem sz_tup {n : Nat} {xs : List D} (h : (D.tup xs).szB n = true) : xs.length ≤ n ∧ ∀ d ∈ xs, d.szB n = true := by
  unfold D.szB at h
  rw [Bool.and_eq_true] at h
  exact ⟨of_decide_eq_true h.1, szAll_iff.mp h.2⟩
theorem mem_cutN {α : Type} {l : List α} {lo hi : Option Int} {a : α} (h : a ∈ cutN l lo hi) : a ∈ l := by
  unfold cutN at h
  exact List.mem_of_mem_drop (List.mem_of_mem_take h)
/-- values of drawn kinds, with other parts -/
def otherV (k : Nat) : VSp := drawV (fun d : D => d) (fun dl => ∃ d n, dl = [d, .int (k : Nat)] ∧ d.val = true ∧ d.szB n = true ∧ n + 1 ≤ 1000) (10 * (k + 1 : Nat)) (fun dl v => v.val = true ∧ ∀ d n, dl = [d, .int (k : Nat)] → d.szB n = true → 3 ≤ n → v.szB (n + 1) = true)
theorem len_otherV {k : Nat} : ∀ dl ms R, otherV k dl ms R → dl.length = 3 := by rintro dl ms R ⟨cells, c, dl', rfl, _, _, _, ⟨d, n, rfl, _⟩, _⟩; rfl
theorem Cmp.val (c : Cmp) : c.d.val = true := by
  refine val_mk fun d hd => ?_
  simp only [List.mem_cons, List.not_mem_nil, or_false] at hd
  rcases hd with rfl | rfl | rfl
  · rfl
  · refine val_mk fun d hd => ?_
    obtain ⟨r, _, rfl⟩ := List.mem_map.mp hd
    refine val_mk fun d hd => ?_
    obtain ⟨r, _, rfl⟩ := List.mem_map.mp hd
    rfl
  · refine val_mk fun d hd => ?_
    obtain ⟨r, _, rfl⟩ := List.mem_map.mp hd
    rfl
theorem Cmp.Ok.sz_ {c : Cmp} (ok : c.Ok) {n : Nat} (h1 : 15 ≤ n) (h2 : c.rows.length ≤ n) : c.d.szB n = true := by
  refine sz_mk (by show 3 ≤ n; omega) fun d hd => ?_
  simp only [List.mem_cons, List.not_mem_nil, or_false] at hd
  rcases hd with rfl | rfl | rfl
  · rfl
  · refine sz_mk (by rw [List.length_map]; exact h2) fun d hd => ?_
    obtain ⟨r, hr, rfl⟩ := List.mem_map.mp hd
    refine sz_mk (by rw [List.length_map, ok.wid r hr]; exact Nat.le_trans (sq15 ok.l3) h1) fun d hd => ?_
    obtain ⟨r, _, rfl⟩ := List.mem_map.mp hd
    rfl
  · refine sz_mk (by rw [List.length_map, ok.mkl]; exact h2) fun d hd => ?_
    obtain ⟨r, _, rfl⟩ := List.mem_map.mp hd
    rfl
/-! ## values shown and compared -/
mutual
def pyD : D → PyData
  | .bl b => .bool b
  | .int i => .int i
  | .str x => .str x
  | .tup ds => .tuple (pyAll ds)
  | .rol ds => .list (pyAll ds)
  | _ => .none
def pyAll : List D → List PyData
  | [] => []
  | d :: ds => pyD d :: pyAll ds
end
theorem pyAll_map : ∀ ds : List D, pyAll ds = ds.map pyD
  | [] => by unfold pyAll; rfl
  | d :: ds => by unfold pyAll; rw [pyAll_map ds]; rfl
/-- at most k deep, of at most the weight w -/
structure Sh (d : D) (k w : Nat) : Prop where
  py : ∀ ms, Py ms d (pyD d)
  sh : (pyD d).showable = true
  nd : (pyD d).hasDict = false
  dp : (pyD d).depth ≤ k
  ls : (pyD d).leavesShort 13 = true
  wt : (pyD d).weight ≤ w
  cl : (pyD d).canLay0 = true
theorem Sh.mono {d : D} {k w k' w' : Nat} (h : Sh d k w) (hk : k ≤ k') (hw : w ≤ w') : Sh d k' w' := ⟨h.py, h.sh, h.nd, Nat.le_trans h.dp hk, h.ls, Nat.le_trans h.wt hw, h.cl⟩
theorem Sh.non {k w : Nat} : Sh .non k w := ⟨fun _ => .non, rfl, rfl, Nat.zero_le _, rfl, Nat.zero_le _, rfl⟩
theorem Sh.bl {b : Bool} {k w : Nat} : Sh (.bl b) k w := ⟨fun _ => .bl b, rfl, rfl, Nat.zero_le _, rfl, Nat.zero_le _, rfl⟩
theorem Sh.int {i : Int} {k : Nat} (h1 : -999999999999 ≤ i) (h2 : i ≤ 999999999999) : Sh (.int i) k 40 where
  py := fun _ => .int i
  sh := by
    show decide (i.natAbs.log2 < 1920) = true
    refine decide_eq_true ?_
    by_cases h : i.natAbs = 0
    · rw [h]; decide
    · have : i.natAbs.log2 < 40 := (Nat.log2_lt h).mpr (by have : (2 : Nat) ^ 40 = 1099511627776 := by decide
                                                           omega)
      omega
  nd := rfl
  dp := Nat.zero_le _
  ls := by
    show decide ((PyData.shown (.int i)).length ≤ 13) = true
    exact decide_eq_true (PyData.shown_int_le2 h1 h2)
  wt := by
    show (if i == 0 then 0 else i.natAbs.log2 + 1) ≤ 40
    split
    · omega
    · rename_i h
      have h0 : i.natAbs ≠ 0 := by
        have : i ≠ 0 := by simpa using h
        omega
      have : i.natAbs.log2 < 40 := (Nat.log2_lt h0).mpr (by have : (2 : Nat) ^ 40 = 1099511627776 := by decide
                                                            omega)
      omega
  cl := rfl
def okS (x : Str) : Bool := (x.cps.toList.all fun c => decide (c < 16 ^ 8)) && PyData.strOk x
theorem Sh.str {x : Str} {k w : Nat} (h : okS x = true) (hl : x.length ≤ w) : Sh (.str x) k w := by
  unfold okS at h
  rw [Bool.and_eq_true] at h
  exact ⟨fun _ => .str x, rfl, rfl, Nat.zero_le _, h.1, hl, h.2⟩
theorem shAll {k w : Nat} : ∀ {ds : List D}, (∀ d ∈ ds, Sh d k w) → (∀ ms, PyAll ms ds (pyAll ds)) ∧ PyData.showableAll (pyAll ds) = true ∧ PyData.hasDictAll (pyAll ds) = false ∧ PyData.depthAll (pyAll ds) ≤ k ∧ PyData.leavesShortAll 13 (pyAll ds) = true ∧ PyData.weightAll (pyAll ds) ≤ ds.length * (w + 1) ∧ PyData.canLayAll0 (pyAll ds) = true
  | [], _ => ⟨fun _ => .nil, rfl, rfl, Nat.zero_le _, rfl, Nat.zero_le _, rfl⟩
  | d :: ds, h => by
    obtain ⟨a, b, c, e, f, g, l⟩ := shAll fun x hx => h x (List.mem_cons_of_mem _ hx)
    have hd := h d List.mem_cons_self
    unfold pyAll
    refine ⟨fun ms => .cons (hd.py ms) (a ms), ?_, ?_, ?_, ?_, ?_, ?_⟩
    · show (PyData.showable _ && PyData.showableAll _) = true
      rw [hd.sh, b]; rfl
    · show (PyData.hasDict _ || PyData.hasDictAll _) = false
      rw [hd.nd, c]; rfl
    · show max _ _ ≤ k
      have := hd.dp
      omega
    · show (PyData.leavesShort 13 _ && PyData.leavesShortAll 13 _) = true
      rw [hd.ls, f]; rfl
    · show PyData.weight _ + 1 + PyData.weightAll _ ≤ (ds.length + 1) * (w + 1)
      have := hd.wt
      rw [Nat.succ_mul]; omega
    · show (PyData.canLay0 _ && PyData.canLayAll0 _) = true
      rw [hd.cl, l]; rfl
theorem Sh.tup {ds : List D} {k w : Nat} (h : ∀ d ∈ ds, Sh d k w) : Sh (.tup ds) (k + 1) (ds.length * (w + 1)) := by
  obtain ⟨a, b, c, e, f, g, l⟩ := shAll h
  exact ⟨fun ms => .tup (a ms), b, c, Nat.succ_le_succ e, f, g, l⟩
theorem Sh.rol {ds : List D} {k w : Nat} (h : ∀ d ∈ ds, Sh d k w) : Sh (.rol ds) (k + 1) (ds.length * (w + 1)) := by
  obtain ⟨a, b, c, e, f, g, l⟩ := shAll h
  exact ⟨fun ms => .rol (a ms), b, c, Nat.succ_le_succ e, f, g, l⟩
section
variable {X : Cx} {B : Bs} {ms : List Ob} {Q : D → List Ob → Prop}
theorem shown_fits {p : PyData} {w : Nat} (ls : p.leavesShort 13 = true) (wt : p.weight ≤ w) (hw : w ≤ 1000000) : p.shown.length ≤ sizeLine := by
  have h := PyData.shown_le 13 (by decide) p ls
  have : (13 + 2) * p.weight + 13 ≤ 16777216 := by omega
  exact Nat.le_trans h this
theorem wc_reprD {d : D} {k w : Nat} (hgd : X.A.guards = some []) (hu : X.A.units + 70 < cLine) (h : Sh d k w) (hk : k ≤ 60) (hw : w ≤ 1000000) (q : Q (.str (pyD d).shown) ms) : WC X B ms (.builtin "repr") [d] Q :=
  wc_repr hgd hu (h.py ms) h.sh h.nd (Nat.le_trans h.dp (by omega)) (shown_fits h.ls h.wt hw) q
/-- the text of a list -/
def shownL (ds : List D) : Str := (PyData.list (pyAll ds)).shown
theorem wc_reprL {j : Nat} {ds : List D} {k w : Nat} (hgd : X.A.guards = some []) (hu : X.A.units + 70 < cLine) (hj : ms[j]? = some (.lst ds)) (h : ∀ d ∈ ds, Sh d k w) (hk : k ≤ 59) (hw : ds.length * (w + 1) ≤ 1000000) (q : Q (.str (shownL ds)) ms) : WC X B ms (.builtin "repr") [.obj j] Q := by
  obtain ⟨a, b, c, e, f, g, l⟩ := shAll h
  refine wc_repr hgd hu (.lst hj (a ms)) b c (Nat.le_trans (Nat.succ_le_succ e) (by omega)) (shown_fits (w := ds.length * (w + 1)) f g hw) q
theorem shaped_of {d : D} {k w : Nat} (h : Sh d k w) (hk : k ≤ 60) : SeqAt.shaped (pyD d) = true := by
  unfold SeqAt.shaped
  rw [h.cl, Bool.true_and]
  exact decide_eq_true (Nat.le_trans h.dp (by omega))
theorem wo_eqDD {d e : D} {k w k' w' : Nat} (hu : X.A.units + 64 < cLine) (h1 : Sh d k w) (h2 : Sh e k' w') (hk : k ≤ 60) (hk' : k' ≤ 60) (q : Q (.bl (PyData.eqv (pyD d) (pyD e))) ms) : WO X B ms (compareOp .Eq) d e Q :=
  wo_eqD hu (h1.py ms) (h2.py ms) (shaped_of h1 hk) (shaped_of h2 hk') q
theorem wo_neDD {d e : D} {k w k' w' : Nat} (hu : X.A.units + 64 < cLine) (h1 : Sh d k w) (h2 : Sh e k' w') (hk : k ≤ 60) (hk' : k' ≤ 60) (q : Q (.bl (!PyData.eqv (pyD d) (pyD e))) ms) : WO X B ms (compareOp .NotEq) d e Q :=
  wo_neD hu (h1.py ms) (h2.py ms) (shaped_of h1 hk) (shaped_of h2 hk') q
theorem eqv_self {d : D} {k w : Nat} (h : Sh d k w) : PyData.eqv (pyD d) (pyD d) = true := SeqAt.eqv_refl _ h.cl
/-- the same value twice -/
theorem wo_neSame {d : D} {k w : Nat} (hu : X.A.units + 64 < cLine) (h : Sh d k w) (hk : k ≤ 60) (q : Q (.bl false) ms) : WO X B ms (compareOp .NotEq) d d Q :=
  wo_neDD hu h h hk hk (by rw [eqv_self h]; exact q)
theorem wo_eqSame {d : D} {k w : Nat} (hu : X.A.units + 64 < cLine) (h : Sh d k w) (hk : k ≤ 60) (q : Q (.bl true) ms) : WO X B ms (compareOp .Eq) d d Q :=
  wo_eqDD hu h h hk hk (by rw [eqv_self h]; exact q)
end
theorem sh_bad {x : D} {s : Str} {w : Nat} (hx : Sh x 0 40) (hs : okS s = true) (hl : s.length ≤ 40) : Sh (badD x s) 1 100 := by
  refine (Sh.tup (k := 0) (w := 40) fun d hd => ?_).mono (Nat.le_refl _) (show 2 * (40 + 1) ≤ 100 by decide)
  simp only [List.mem_cons, List.not_mem_nil, or_false] at hd
  rcases hd with rfl | rfl
  · exact hx
  · exact Sh.str hs hl
theorem sh_err (d : D) (n : Nat) (hn : n ≤ 100000) (hz : d.szB n = true) : Sh (errD d) 1 100 := by
  have h1 : Sh (badD .non "letters") 1 100 := sh_bad (w := 0) Sh.non (by decide +kernel) (by decide +kernel)
  have h2 : Sh (badD .non "rows") 1 100 := sh_bad (w := 0) Sh.non (by decide +kernel) (by decide +kernel)
  have h3 : Sh (badD .non "verdicts") 1 100 := sh_bad (w := 0) Sh.non (by decide +kernel) (by decide +kernel)
  have h4 : Sh (badD .non "comp") 1 100 := sh_bad (w := 0) Sh.non (by decide +kernel) (by decide +kernel)
  unfold errD
  split
  · rename_i l r m
    unfold err3
    split
    · exact h1
    · split
      · rename_i rs
        split
        · exact h2
        · unfold errR
          split
          · rename_i k hk
            have hl : k < rs.length := (List.findIdx?_eq_some_iff_getElem.mp hk).1
            have hl2 : rs.length ≤ n := (sz_tup ((sz_tup hz).2 (.tup rs) (by simp))).1
            exact sh_bad (w := 0) (Sh.int (by omega) (by omega)) (by decide +kernel) (by decide +kernel)
          · split
            · exact Sh.non
            · exact h3
      · exact h2
  · exact h4
end VL

namespace VL
open PySem PySem.Spec PyProof.Rows L2
theorem wo_powC {X : Cx} {B : Bs} {ms : List Ob} {Q : D → List Ob → Prop} {i j : Int} (r : Int) (hr : i ^ j.toNat = r) (hc : CPow i j) (q : Q (.int r) ms) : WO X B ms (binaryOp .Pow) (.int i) (.int j) Q := wo_powI hc (by rw [hr]; exact q)
/-- a cut behind a statement -/
theorem ws_mid {X : Cx} {B : Bs} {fl : Nat} {ds : List (Option D)} {ms : List Ob} {st : Stmt} {E : En} (Mid : List (Option D) → List Ob → Prop) (h1 : WS X B fl ds ms st ⟨Mid, E.rt, E.bk, E.ct⟩) (h2 : ∀ ds' ms', Mid ds' ms' → E.nx ds' ms') : WS X B fl ds ms st E :=
  .mk fun σ H θ hf S L => (h1 σ H θ hf S L).imp (fun _ _ z => nxOf.imp h2 z) (fun _ _ z => z) (fun _ _ z => z) (fun _ _ z => z)
section
variable {X : Cx} {B : Bs} {ds : List (Option D)} {ms : List Ob}
/-- expressions that leave the store as it is -/
inductive PureAll (X : Cx) (B : Bs) (ds : List (Option D)) (ms : List Ob) : List Expr → List D → Prop
  | nil : PureAll X B ds ms [] []
  | cons {e : Expr} {es : List Expr} {d : D} {dl : List D} (h : WE X B ds ms e fun x m => x = d ∧ m = ms) (r : PureAll X B ds ms es dl) (hs : starEach (e :: es) X.env = (false, eval e X.env) :: starEach es X.env := by rfl) : PureAll X B ds ms (e :: es) (d :: dl)
theorem wa_pures {Q : List D → List Ob → Prop} : ∀ {es : List Expr} {dl : List D}, PureAll X B ds ms es dl → Q dl ms → WA X B ds ms es Q := fun {es dl} h => by
  induction h generalizing Q with
  | nil => exact fun q => wa_nil q
  | cons h r hs ih =>
    intro q
    refine wa_cons (we_imp h fun x m ⟨e1, e2⟩ => ?_) hs
    subst e1; subst e2
    exact ih q
end
/-- the slots speak of the first n objects only -/
def clOs (n : Nat) : List (Option D) → Bool
  | [] => true
  | some d :: r => d.cl n && clOs n r
  | none :: r => clOs n r
theorem clOs_mem {n : Nat} : ∀ {ds : List (Option D)}, clOs n ds = true → ∀ d, some d ∈ ds → d.cl n = true
  | some e :: r, h, d, hm => by
    unfold clOs at h
    rw [Bool.and_eq_true] at h
    rcases List.mem_cons.mp hm with z | z
    · cases z; exact h.1
    · exact clOs_mem h.2 d z
  | none :: r, h, d, hm => by
    unfold clOs at h
    rcases List.mem_cons.mp hm with z | z
    · cases z
    · exact clOs_mem h d z
/-- all but the deck is forgotten -/
theorem wss_dk {X : Cx} {B : Bs} {fl : Nat} {ds : List (Option D)} {st : List Stmt} {E : En} {cells : List Int} {c : Int} {R : List Ob} (hf : fl ≤ 2) (hc : clOs 2 ds = true) (h : WSs X B fl ds (dk cells c) st E) : WSs X B fl ds (dk cells c ++ R) st E :=
  wss_drop 2 (by simp [dk]) hf (dk_cl cells c (by decide)) ds rfl (fun i d hd => ⟨hd, clOs_mem hc d (List.mem_of_getElem? hd)⟩) h
theorem dk_clR {cells : List Int} {c : Int} {n : Nat} {R : List Ob} (h : 1 ≤ n) (hR : R.all (Ob.cl n) = true) : (dk cells c ++ R).all (Ob.cl n) = true := by
  rw [List.all_append, dk_cl cells c h, hR]; rfl
theorem sh_cols {L : Nat} (h1 : 1 ≤ L) (h3 : L ≤ 3) : Sh (.tup ((colsN L).map dS)) 1 45 := by
  have key : ∀ L ∈ [1, 2, 3], ∀ x ∈ colsN L, okS (mkS x) = true ∧ (mkS x).length ≤ 2 := by decide +kernel
  refine (Sh.tup (k := 0) (w := 2) fun d hd => ?_).mono (Nat.le_refl _) (by rw [List.length_map, cols_len h1 h3]; have := sq15 h3; omega)
  obtain ⟨x, hx, rfl⟩ := List.mem_map.mp hd
  obtain ⟨a, b⟩ := key L (by rcases lcase h1 h3 with rfl | rfl | rfl <;> simp) x hx
  exact Sh.str a b
theorem hu64 {k : Nat} {A : Around} (hr : Room k A) : A.units + 64 < cLine := by have := hr.un; omega
end VL

namespace My
open PySem PySem.Spec PyProof.Rows L2 VL
def topS (i : Nat) : Stmt := PySem.Challenge.pw_surelyorders_k35_comparisons_with_errors.main.body.getD i (.Pass ⟨0, 0, 0, 0⟩)
structure Txt (K : PySem.W.Frag) (mg : Str → Option Value) (t_END t_LETTERS t_MAX_LETTERS : Tok) : Prop where
  g_END : mg "END" = some (.str "." t_END)
  g_LETTERS : mg "LETTERS" = some (.str "abc" t_LETTERS)
  g_MAX_LETTERS : mg "MAX_LETTERS" = some (.int 3 t_MAX_LETTERS)
  g_abs : mg "abs" = none
  g_bool : mg "bool" = none
  g_enumerate : mg "enumerate" = none
  g_int : mg "int" = none
  g_isinstance : mg "isinstance" = none
  g_len : mg "len" = none
  g_list : mg "list" = none
  g_max : mg "max" = none
  g_range : mg "range" = none
  g_repr : mg "repr" = none
  g_tuple : mg "tuple" = none
section
variable {P : Program} {w : World} {K : PySem.W.Frag} {mg : Str → Option Value} {base : Heap} {t_END t_LETTERS t_MAX_LETTERS : Tok}
def p_signs_of : List D → D → Prop := fun dl v => ∃ L : Nat, dl = [.int L] ∧ 1 ≤ L ∧ L ≤ 3 ∧ v = dS (sgn L)
abbrev v_signs_of : VSp := pureV p_signs_of
theorem len_signs_of : ∀ dl v, p_signs_of dl v → dl.length = 1 := by rintro dl v ⟨L, rfl, _⟩; rfl
theorem im_signs_of : ∀ dl v, p_signs_of dl v → v.im = true := by rintro dl v ⟨L, _, _, _, rfl⟩; rfl
abbrev s_signs_of : Stmt := topS 5
theorem sc_signs_of : FnScope ["letters"] ["letters"] (defScope s_signs_of) := ⟨rfl, rfl, rfl, by decide +kernel, rfl, by decide +kernel, by decide +kernel⟩
theorem ok_signs_of {f : Addr} {fd : FuncData} (F : Fun K "signs_of" "signs_of" s_signs_of f fd) (T : Txt K mg t_END t_LETTERS t_MAX_LETTERS) : FnG P w K mg base 1 f fd ["letters"] (spOf K v_signs_of) := by
  obtain ⟨g_END, g_LETTERS, g_MAX_LETTERS, g_abs, g_bool, g_enumerate, g_int, g_isinstance, g_len, g_list, g_max, g_range, g_repr, g_tuple⟩ := T
  have sc := sc_signs_of
  refine vfnP F sc_signs_of len_signs_of im_signs_of (fun cdv A outer s H hr hgd B dl v h => ?_)
  have hu := hu_of hr
  obtain ⟨L, rfl, h1, h3, rfl⟩ := h
  refine wss_one (ws_ret (we_bin (we_slice (we_globS g_LETTERS rfl (we_name 0 rfl rfl (.inl rfl) (⟨_, rfl, wl_S ?_ (we_globS g_END rfl (wo_addS ?_ (?_)))⟩))))))
  · decide
  · rcases lcase h1 h3 with rfl | rfl | rfl <;> decide +kernel
  · rcases lcase h1 h3 with rfl | rfl | rfl <;> exact congrArg D.str (by decide +kernel)
def p_columns : List D → D → Prop := fun dl v => ∃ L : Nat, dl = [.int L] ∧ 1 ≤ L ∧ L ≤ 3 ∧ v = .tup ((colsN L).map dS)
abbrev v_columns : VSp := pureV p_columns
theorem len_columns : ∀ dl v, p_columns dl v → dl.length = 1 := by rintro dl v ⟨L, rfl, _⟩; rfl
theorem im_columns : ∀ dl v, p_columns dl v → v.im = true := by rintro dl v ⟨L, _, _, _, rfl⟩; exact im_dS _
abbrev s_columns : Stmt := topS 6
theorem sc_columns : FnScope ["letters", "found", "one", "other"] ["letters"] (defScope s_columns) := ⟨rfl, rfl, rfl, by decide +kernel, rfl, by decide +kernel, by decide +kernel⟩
theorem ok_columns {f : Addr} {fd : FuncData} (F : Fun K "columns" "columns" s_columns f fd) (T : Txt K mg t_END t_LETTERS t_MAX_LETTERS) (D_signs_of : Dc P w K mg base 1 "signs_of" ["letters"] v_signs_of) : FnG P w K mg base 2 f fd ["letters"] (spOf K v_columns) := by
  obtain ⟨g_END, g_LETTERS, g_MAX_LETTERS, g_abs, g_bool, g_enumerate, g_int, g_isinstance, g_len, g_list, g_max, g_range, g_repr, g_tuple⟩ := T
  have sc := sc_columns
  refine vfnP F sc_columns len_columns im_columns (fun cdv A outer s H hr hgd B dl v h => ?_)
  have hu := hu_of hr
  obtain ⟨L, rfl, h1, h3, rfl⟩ := h
  have hsz : (sgn L).length ≤ 4 := by rw [sgn_len h3]; omega
  refine wss_cons (ws_set 1 sc.nd rfl (.inl rfl) (.inl rfl) (we_list (wa_nil ⟨show 0 ≤ sizeLine by decide, wss_cons (ws_for rfl PassesOwn.never (wi_str (we_callP D_signs_of (hr.mono (by omega)) hgd rfl (wa_cons (we_name 0 rfl rfl (.inl rfl) (wa_nil ((⟨rfl, _, ⟨L, rfl, h1, h3, rfl⟩, rfl, (⟨_, rfl, ?_⟩)⟩))))))))⟩)))
  refine ⟨fun i ds m => ∃ o1 o2 rest, ds = [some (.int L), some (.obj 0), o1, o2] ∧ m = .lst ((((sgn L).take i).flatMap fun a => (sgn L).map fun b => [a, b]).map dS) :: rest, ⟨none, none, [], rfl, rfl⟩, fun _ _ _ _ => trivial, ?_, ?_⟩
  · rintro i d ds m hi ⟨o1, o2, rest, rfl, rfl⟩
    obtain ⟨a, ha, rfl⟩ := getE_str hi
    have hi4 : i < (sgn L).length := (List.getElem?_eq_some_iff.mp ha).1
    refine wg_name 2 sc.nd rfl (.inr rfl) (.inl rfl) (wss_one (ws_expr (we_bm PySem.F.plainAttrs_list PySem.F.slot_list_extend PySem.F.type_list_extend (we_name 1 rfl rfl (.inl rfl) (⟨(.inl ⟨rfl, _, (by first | rfl | exact VL.gL | assumption | exact VL.gA (by assumption) | exact VL.gA VL.gL | exact VL.gA (VL.gA (by assumption)) | exact VL.gM | exact VL.gA VL.gM | exact VL.gA (VL.gA VL.gL) | exact VL.gA (VL.gA (VL.gA VL.gL)) | exact VL.gD | exact VL.gA VL.gD | exact VL.gK (by assumption) | exact VL.gA (VL.gK (by assumption)) | exact VL.gA (VL.gA (VL.gK (by assumption))) | exact VL.gA (VL.gA (VL.gA (VL.gK (by assumption)))))⟩), wa_cons (we_lc rfl sc.nd (own := [("other", 3)]) (blkOk_by rfl) (tg_name 3 sc.nd rfl rfl (by decide)) (wi_str (we_callP D_signs_of (hr.mono (by omega)) hgd rfl (wa_cons (we_name 0 rfl rfl (.inl rfl) (wa_nil ((⟨rfl, _, ⟨L, rfl, h1, h3, rfl⟩, rfl, (⟨_, rfl, lc_map (sgn L) (fun c => dS [c]) (fun b => dS [a, b]) ?_ trivial (fun b hb => ⟨_, rfl, fun B s H C cl fp => we_bin (we_name 2 rfl rfl (.inr (.inl rfl)) (we_name 3 rfl rfl (.inl rfl) (wo_addS ?_ ((⟨congrArg D.str (mkS_app [a] [b]), rfl⟩)))))⟩) (wa_nil (wm_extend (by first | rfl | exact VL.gL | assumption | exact VL.gA (by assumption) | exact VL.gA VL.gL | exact VL.gA (VL.gA (by assumption)) | exact VL.gM | exact VL.gA VL.gM | exact VL.gA (VL.gA VL.gL) | exact VL.gA (VL.gA (VL.gA VL.gL)) | exact VL.gD | exact VL.gA VL.gD | exact VL.gK (by assumption) | exact VL.gA (VL.gK (by assumption)) | exact VL.gA (VL.gA (VL.gK (by assumption))) | exact VL.gA (VL.gA (VL.gA (VL.gK (by assumption))))) (by first | rfl | exact VL.gL | assumption | exact VL.gA (by assumption) | exact VL.gA VL.gL | exact VL.gA (VL.gA (by assumption)) | exact VL.gM | exact VL.gA VL.gM | exact VL.gA (VL.gA VL.gL) | exact VL.gA (VL.gA (VL.gA VL.gL)) | exact VL.gD | exact VL.gA VL.gD | exact VL.gK (by assumption) | exact VL.gA (VL.gK (by assumption)) | exact VL.gA (VL.gA (VL.gK (by assumption))) | exact VL.gA (VL.gA (VL.gA (VL.gK (by assumption))))) ?_ (?_)))⟩)⟩))))))))⟩)))))
    · exact Nat.le_trans hsz (by decide)
    · rw [mkS_len, mkS_len]; show 1 + 1 ≤ sizeLine; decide
    · refine Nat.le_trans (m := 16) ?_ (by decide)
      simp only [List.length_map, List.length_flatMap, List.map_const', List.sum_replicate_nat, List.length_take]
      have : min i (sgn L).length * (sgn L).length ≤ 3 * 4 := Nat.mul_le_mul (by omega) hsz
      omega
    · refine ⟨_, _, rest ++ [.lst ((sgn L).map fun b => dS [a, b])], rfl, ?_⟩
      rw [flatMap_take_succ _ ha, List.map_append, List.map_map]
      rfl
  · rintro ds m ⟨o1, o2, rest, rfl, rfl⟩
    refine wss_one (ws_ret (we_callTy g_tuple (by decide +kernel) rfl (wa_cons (we_slice (we_name 1 rfl rfl (.inl rfl) (we_un (we_int (wu_neg (⟨_, rfl, wl_L (by first | rfl | exact VL.gL | assumption | exact VL.gA (by assumption) | exact VL.gA VL.gL | exact VL.gA (VL.gA (by assumption)) | exact VL.gM | exact VL.gA VL.gM | exact VL.gA (VL.gA VL.gL) | exact VL.gA (VL.gA (VL.gA VL.gL)) | exact VL.gD | exact VL.gA VL.gD | exact VL.gK (by assumption) | exact VL.gA (VL.gK (by assumption)) | exact VL.gA (VL.gA (VL.gK (by assumption))) | exact VL.gA (VL.gA (VL.gA (VL.gK (by assumption))))) (wa_nil (wc_tupleL (by first | rfl | exact VL.gL | assumption | exact VL.gA (by assumption) | exact VL.gA VL.gL | exact VL.gA (VL.gA (by assumption)) | exact VL.gM | exact VL.gA VL.gM | exact VL.gA (VL.gA VL.gL) | exact VL.gA (VL.gA (VL.gA VL.gL)) | exact VL.gD | exact VL.gA VL.gD | exact VL.gK (by assumption) | exact VL.gA (VL.gK (by assumption)) | exact VL.gA (VL.gA (VL.gK (by assumption))) | exact VL.gA (VL.gA (VL.gA (VL.gK (by assumption))))) (?_)))⟩)))))))))
    rw [cutD_eq, cutN_init, mkS_items, List.length_map, List.take_length, ← List.map_dropLast]
    rfl
abbrev v_is_integer : VSp := pureV isIntP
abbrev len_is_integer := @len_isIntP
abbrev im_is_integer := @im_isIntP
abbrev s_is_integer : Stmt := topS 4
theorem sc_is_integer : FnScope ["value", "least", "most"] ["value", "least", "most"] (defScope s_is_integer) := ⟨rfl, rfl, rfl, by decide +kernel, rfl, by decide +kernel, by decide +kernel⟩
theorem ok_is_integer {f : Addr} {fd : FuncData} (F : Fun K "is_integer" "is_integer" s_is_integer f fd) (T : Txt K mg t_END t_LETTERS t_MAX_LETTERS) : FnG P w K mg base 1 f fd ["value", "least", "most"] (spOf K v_is_integer) := by
  obtain ⟨g_END, g_LETTERS, g_MAX_LETTERS, g_abs, g_bool, g_enumerate, g_int, g_isinstance, g_len, g_list, g_max, g_range, g_repr, g_tuple⟩ := T
  have sc := sc_is_integer
  refine vfnP F sc_is_integer len_is_integer im_is_integer (fun cdv A outer s H hr hgd B dl v h => ?_)
  have hu := hu_of hr
  obtain ⟨d, lo, hi, hv, rfl, rfl⟩ := h
  have hk0 := val_tyK hv
  cases d with
  | int i =>
    refine wss_one (ws_ret (we_and2 (we_callB g_isinstance (by decide +kernel) rfl (wa_cons (we_name 0 rfl rfl (.inl rfl) (wa_cons (we_ty g_int rfl (by decide +kernel) (wa_nil (wc_isiI (by first | rfl | assumption) (⟨_, rfl, fun hk => we_and2 (we_not (we_callB g_isinstance (by decide +kernel) rfl (wa_cons (we_name 0 rfl rfl (.inl rfl) (wa_cons (we_ty g_bool rfl (by decide +kernel) (wa_nil (wc_isiB (by first | rfl | assumption) (⟨_, rfl, ⟨_, rfl, fun hk => we_and1 (we_chain (we_name 1 rfl rfl (.inl rfl) (we_name 0 rfl rfl (.inl rfl) (wo_leI (⟨_, rfl, fun hk => we_name 2 rfl rfl (.inl rfl) (wo_leI (?_)), fun hk => ?_⟩))))), fun hk => ?_⟩⟩))))))))), fun hk => ?_⟩))))))))))
    all_goals first
      | rfl
      | (cases hk; done)
      | (show D.bl false = D.bl (decide _ && decide _); rw [hk]; rfl)
      | (show D.bl (decide _) = D.bl (decide _ && decide _); rw [hk]; rfl)
  | bl b =>
    refine wss_one (ws_ret (we_and2 (we_callB g_isinstance (by decide +kernel) rfl (wa_cons (we_name 0 rfl rfl (.inl rfl) (wa_cons (we_ty g_int rfl (by decide +kernel) (wa_nil (wc_isiI (by first | rfl | assumption) (⟨_, rfl, fun hk => we_and2 (we_not (we_callB g_isinstance (by decide +kernel) rfl (wa_cons (we_name 0 rfl rfl (.inl rfl) (wa_cons (we_ty g_bool rfl (by decide +kernel) (wa_nil (wc_isiB (by first | rfl | assumption) (⟨_, rfl, ⟨_, rfl, fun hk => False.elim ?_, fun hk => ?_⟩⟩))))))))), fun hk => ?_⟩))))))))))
    all_goals first | rfl | (cases hk; done)
  | _ =>
    refine wss_one (ws_ret (we_and2 (we_callB g_isinstance (by decide +kernel) rfl (wa_cons (we_name 0 rfl rfl (.inl rfl) (wa_cons (we_ty g_int rfl (by decide +kernel) (wa_nil (wc_isiI (by first | rfl | assumption) (⟨_, rfl, fun hk => False.elim ?_, fun hk => ?_⟩))))))))))
    all_goals first | rfl | (cases hk; done)
theorem im_iI {d : D} {i j : Int} (h : d.val = true) : imAll [d, .int i, .int j] = true := by unfold imAll; rw [val_im h]; rfl
theorem im_iM {d : D} {i : Int} (h : d.val = true) : imAll [d, .int i] = true := by unfold imAll; rw [val_im h]; rfl
theorem im_iI2 {d : D} {i j : Int} (h : d.val = true) : imAll [d, .int i, .int j] = true := im_iI h
theorem im_i1 {d : D} (h : d.val = true) : imAll [d] = true := by unfold imAll; rw [val_im h]; rfl
abbrev v_is_row : VSp := pureV isRowP
abbrev len_is_row := @len_isRowP
abbrev im_is_row := @im_isRowP
abbrev s_is_row : Stmt := topS 7
theorem sc_is_row : FnScope ["value", "letters", "states", "item"] ["value", "letters", "states"] (defScope s_is_row) := ⟨rfl, rfl, rfl, by decide +kernel, rfl, by decide +kernel, by decide +kernel⟩
theorem ok_is_row {f : Addr} {fd : FuncData} (F : Fun K "is_row" "is_row" s_is_row f fd) (T : Txt K mg t_END t_LETTERS t_MAX_LETTERS) (D_columns : Dc P w K mg base 2 "columns" ["letters"] v_columns) (D_is_integer : Dc P w K mg base 1 "is_integer" ["value", "least", "most"] v_is_integer) : FnG P w K mg base 3 f fd ["value", "letters", "states"] (spOf K v_is_row) := by
  obtain ⟨g_END, g_LETTERS, g_MAX_LETTERS, g_abs, g_bool, g_enumerate, g_int, g_isinstance, g_len, g_list, g_max, g_range, g_repr, g_tuple⟩ := T
  have sc := sc_is_row
  refine vfnP F sc_is_row len_is_row im_is_row (fun cdv A outer s H hr hgd B dl v h => ?_)
  have hu := hu_of hr
  obtain ⟨d, L, n, hv, h1, h3, rfl, rfl⟩ := h
  have hk0 := val_tyK hv
  cases d with
  | tup xs =>
    have hvs := val_tup hv
    refine wss_cons (ws_if (wt_w (wt_or2 (wt_not (wt_val (we_callB g_isinstance (by decide +kernel) rfl (wa_cons (we_name 0 rfl rfl (.inl rfl) (wa_cons (we_ty g_tuple rfl (by decide +kernel) (wa_nil (wc_isiT (by first | rfl | assumption) (⟨_, rfl, ⟨fun hk => wt_or1 (wt_cmp (we_callB g_len (by decide +kernel) rfl (wa_cons (we_name 0 rfl rfl (.inl rfl) (wa_nil (wc_lenT (we_callB g_len (by decide +kernel) rfl (wa_cons (we_callP D_columns (hr.mono (by omega)) hgd rfl (wa_cons (we_name 1 rfl rfl (.inl rfl) (wa_nil ((⟨rfl, _, ⟨L, rfl, h1, h3, rfl⟩, im_dS _, (wa_nil (wc_lenT (wo_neI (⟨_, rfl, ⟨fun hk1 => wss_one (ws_ret (we_bl (?_))), fun hk1 => wss_nil (wss_one (ws_ret (we_cmp (we_lc rfl sc.nd (own := [("item", 3)]) (blkOk_by rfl) (tg_name 3 sc.nd rfl rfl (by decide)) (wi_tupZ (we_name 0 rfl rfl (.inl rfl) (⟨_, rfl, fun hsz => lc_filtE xs (fun d => d) (fun d => !intInD 0 ((n : Int) - 1) d) (fun d => d) (List.map_id' ..).symm hsz trivial (fun a ha => ⟨_, rfl, fun B s H C cl fp => wt_not (wt_val (we_callP D_is_integer (hr.mono (by omega)) hgd rfl (wa_cons (we_name 3 rfl rfl (.inl rfl) (wa_cons (we_int (wa_cons (we_bin (we_name 2 rfl rfl (.inr (.inl rfl)) (we_int (wo_subI (wa_nil ((⟨im_iI (hvs a ha), _, ⟨a, _, _, hvs a ha, rfl, rfl⟩, rfl, (⟨_, rfl, ⟨rfl, rfl, fun hp s H C cl fp => we_name 3 rfl rfl (.inl rfl) (⟨rfl, rfl⟩)⟩⟩)⟩))))))))))))))⟩) (we_list (wa_nil ⟨show 0 ≤ sizeLine by decide, wo_eqL0 (Nat.lt_of_succ_lt hu) (by first | rfl | exact VL.gL | assumption | exact VL.gA (by assumption) | exact VL.gA VL.gL | exact VL.gA (VL.gA (by assumption)) | exact VL.gM | exact VL.gA VL.gM | exact VL.gA (VL.gA VL.gL) | exact VL.gA (VL.gA (VL.gA VL.gL)) | exact VL.gD | exact VL.gA VL.gD | exact VL.gK (by assumption) | exact VL.gA (VL.gK (by assumption)) | exact VL.gA (VL.gA (VL.gK (by assumption))) | exact VL.gA (VL.gA (VL.gA (VL.gK (by assumption))))) (by first | rfl | exact VL.gL | assumption | exact VL.gA (by assumption) | exact VL.gA VL.gL | exact VL.gA (VL.gA (by assumption)) | exact VL.gM | exact VL.gA VL.gM | exact VL.gA (VL.gA VL.gL) | exact VL.gA (VL.gA (VL.gA VL.gL)) | exact VL.gD | exact VL.gA VL.gD | exact VL.gK (by assumption) | exact VL.gA (VL.gK (by assumption)) | exact VL.gA (VL.gA (VL.gK (by assumption))) | exact VL.gA (VL.gA (VL.gA (VL.gK (by assumption))))) (?_)⟩))⟩)))))))⟩⟩))))⟩)))))))))))))), fun hk => ⟨fun hk1 => wss_one (ws_ret (we_bl (?_))), fun hk1 => wss_nil (wss_one (ws_ret (we_cmp (we_lc rfl sc.nd (own := [("item", 3)]) (blkOk_by rfl) (tg_name 3 sc.nd rfl rfl (by decide)) (wi_tupZ (we_name 0 rfl rfl (.inl rfl) (⟨_, rfl, fun hsz => lc_filtE xs (fun d => d) (fun d => !intInD 0 ((n : Int) - 1) d) (fun d => d) (List.map_id' ..).symm hsz trivial (fun a ha => ⟨_, rfl, fun B s H C cl fp => wt_not (wt_val (we_callP D_is_integer (hr.mono (by omega)) hgd rfl (wa_cons (we_name 3 rfl rfl (.inl rfl) (wa_cons (we_int (wa_cons (we_bin (we_name 2 rfl rfl (.inr (.inl rfl)) (we_int (wo_subI (wa_nil ((⟨im_iI (hvs a ha), _, ⟨a, _, _, hvs a ha, rfl, rfl⟩, rfl, (⟨_, rfl, ⟨rfl, rfl, fun hp s H C cl fp => we_name 3 rfl rfl (.inl rfl) (⟨rfl, rfl⟩)⟩⟩)⟩))))))))))))))⟩) (we_list (wa_nil ⟨show 0 ≤ sizeLine by decide, wo_eqL0 (Nat.lt_of_succ_lt hu) (by first | rfl | exact VL.gL | assumption | exact VL.gA (by assumption) | exact VL.gA VL.gL | exact VL.gA (VL.gA (by assumption)) | exact VL.gM | exact VL.gA VL.gM | exact VL.gA (VL.gA VL.gL) | exact VL.gA (VL.gA (VL.gA VL.gL)) | exact VL.gD | exact VL.gA VL.gD | exact VL.gK (by assumption) | exact VL.gA (VL.gK (by assumption)) | exact VL.gA (VL.gA (VL.gK (by assumption))) | exact VL.gA (VL.gA (VL.gA (VL.gK (by assumption))))) (by first | rfl | exact VL.gL | assumption | exact VL.gA (by assumption) | exact VL.gA VL.gL | exact VL.gA (VL.gA (by assumption)) | exact VL.gM | exact VL.gA VL.gM | exact VL.gA (VL.gA VL.gL) | exact VL.gA (VL.gA (VL.gA VL.gL)) | exact VL.gD | exact VL.gA VL.gD | exact VL.gK (by assumption) | exact VL.gA (VL.gK (by assumption)) | exact VL.gA (VL.gA (VL.gK (by assumption))) | exact VL.gA (VL.gA (VL.gA (VL.gK (by assumption))))) (?_)⟩))⟩)))))))⟩⟩⟩)))))))))))))
    all_goals first
      | (cases hk; done)
      | (cases hk1; done)
      | skip
    · show D.bl false = D.bl (decide (xs.length = wideN L) && _)
      have : ¬ xs.length = wideN L := fun e => by
        rw [List.length_map, show (colsN L).length = wideN L from rfl, e] at hk1; simp at hk1
      rw [decide_eq_false this]; rfl
    · show D.bl _ = D.bl (decide (xs.length = wideN L) && _)
      have : xs.length = wideN L := by
        rw [List.length_map, show (colsN L).length = wideN L from rfl] at hk1
        have := of_decide_eq_true (by simpa using hk1); omega
      rw [decide_eq_true this, List.map_id']; rfl
  | _ =>
    refine wss_cons (ws_if (wt_w (wt_or2 (wt_not (wt_val (we_callB g_isinstance (by decide +kernel) rfl (wa_cons (we_name 0 rfl rfl (.inl rfl) (wa_cons (we_ty g_tuple rfl (by decide +kernel) (wa_nil (wc_isiT (by first | rfl | assumption) (⟨_, rfl, ⟨fun hk => False.elim ?_, fun hk => ⟨fun hk1 => wss_one (ws_ret (we_bl (?_))), fun hk1 => False.elim ?_⟩⟩⟩)))))))))))))
    all_goals first | rfl | (cases hk; done) | (cases hk1; done)
abbrev v_are_verdicts : VSp := pureV isMarksP
abbrev len_are_verdicts := @len_isMarksP
abbrev im_are_verdicts := @im_isMarksP
abbrev s_are_verdicts : Stmt := topS 8
theorem sc_are_verdicts : FnScope ["value", "states", "item"] ["value", "states"] (defScope s_are_verdicts) := ⟨rfl, rfl, rfl, by decide +kernel, rfl, by decide +kernel, by decide +kernel⟩
theorem ok_are_verdicts {f : Addr} {fd : FuncData} (F : Fun K "are_verdicts" "are_verdicts" s_are_verdicts f fd) (T : Txt K mg t_END t_LETTERS t_MAX_LETTERS) (D_is_integer : Dc P w K mg base 1 "is_integer" ["value", "least", "most"] v_is_integer) : FnG P w K mg base 2 f fd ["value", "states"] (spOf K v_are_verdicts) := by
  obtain ⟨g_END, g_LETTERS, g_MAX_LETTERS, g_abs, g_bool, g_enumerate, g_int, g_isinstance, g_len, g_list, g_max, g_range, g_repr, g_tuple⟩ := T
  have sc := sc_are_verdicts
  refine vfnP F sc_are_verdicts len_are_verdicts im_are_verdicts (fun cdv A outer s H hr hgd B dl v h => ?_)
  have hu := hu_of hr
  obtain ⟨d, n, hv, rfl, rfl⟩ := h
  have hk0 := val_tyK hv
  cases d with
  | tup xs =>
    have hvs := val_tup hv
    refine wss_cons (ws_if (wt_w (wt_or2 (wt_not (wt_val (we_callB g_isinstance (by decide +kernel) rfl (wa_cons (we_name 0 rfl rfl (.inl rfl) (wa_cons (we_ty g_tuple rfl (by decide +kernel) (wa_nil (wc_isiT (by first | rfl | assumption) (⟨_, rfl, ⟨fun hk => wt_or1 (wt_cmp (we_callB g_len (by decide +kernel) rfl (wa_cons (we_name 0 rfl rfl (.inl rfl) (wa_nil (wc_lenT (we_name 1 rfl rfl (.inl rfl) (wo_neI (⟨_, rfl, ⟨fun hk1 => wss_one (ws_ret (we_bl (?_))), fun hk1 => wss_nil (wss_one (ws_ret (we_cmp (we_lc rfl sc.nd (own := [("item", 2)]) (blkOk_by rfl) (tg_name 2 sc.nd rfl rfl (by decide)) (wi_tupZ (we_name 0 rfl rfl (.inl rfl) (⟨_, rfl, fun hsz => lc_filtE xs (fun d => d) (fun d => !intInD (-1) 1 d) (fun d => d) (List.map_id' ..).symm hsz trivial (fun a ha => ⟨_, rfl, fun B s H C cl fp => wt_not (wt_val (we_callP D_is_integer (hr.mono (by omega)) hgd rfl (wa_cons (we_name 2 rfl rfl (.inl rfl) (wa_cons (we_un (we_int (wu_neg (wa_cons (we_int (wa_nil ((⟨im_iI (hvs a ha), _, ⟨a, _, _, hvs a ha, rfl, rfl⟩, rfl, (⟨_, rfl, ⟨rfl, rfl, fun hp s H C cl fp => we_name 2 rfl rfl (.inl rfl) (⟨rfl, rfl⟩)⟩⟩)⟩)))))))))))))⟩) (we_list (wa_nil ⟨show 0 ≤ sizeLine by decide, wo_eqL0 (Nat.lt_of_succ_lt hu) (by first | rfl | exact VL.gL | assumption | exact VL.gA (by assumption) | exact VL.gA VL.gL | exact VL.gA (VL.gA (by assumption)) | exact VL.gM | exact VL.gA VL.gM | exact VL.gA (VL.gA VL.gL) | exact VL.gA (VL.gA (VL.gA VL.gL)) | exact VL.gD | exact VL.gA VL.gD | exact VL.gK (by assumption) | exact VL.gA (VL.gK (by assumption)) | exact VL.gA (VL.gA (VL.gK (by assumption))) | exact VL.gA (VL.gA (VL.gA (VL.gK (by assumption))))) (by first | rfl | exact VL.gL | assumption | exact VL.gA (by assumption) | exact VL.gA VL.gL | exact VL.gA (VL.gA (by assumption)) | exact VL.gM | exact VL.gA VL.gM | exact VL.gA (VL.gA VL.gL) | exact VL.gA (VL.gA (VL.gA VL.gL)) | exact VL.gD | exact VL.gA VL.gD | exact VL.gK (by assumption) | exact VL.gA (VL.gK (by assumption)) | exact VL.gA (VL.gA (VL.gK (by assumption))) | exact VL.gA (VL.gA (VL.gA (VL.gK (by assumption))))) (?_)⟩))⟩)))))))⟩⟩))))))))), fun hk => ⟨fun hk1 => wss_one (ws_ret (we_bl (?_))), fun hk1 => wss_nil (wss_one (ws_ret (we_cmp (we_lc rfl sc.nd (own := [("item", 2)]) (blkOk_by rfl) (tg_name 2 sc.nd rfl rfl (by decide)) (wi_tupZ (we_name 0 rfl rfl (.inl rfl) (⟨_, rfl, fun hsz => lc_filtE xs (fun d => d) (fun d => !intInD (-1) 1 d) (fun d => d) (List.map_id' ..).symm hsz trivial (fun a ha => ⟨_, rfl, fun B s H C cl fp => wt_not (wt_val (we_callP D_is_integer (hr.mono (by omega)) hgd rfl (wa_cons (we_name 2 rfl rfl (.inl rfl) (wa_cons (we_un (we_int (wu_neg (wa_cons (we_int (wa_nil ((⟨im_iI (hvs a ha), _, ⟨a, _, _, hvs a ha, rfl, rfl⟩, rfl, (⟨_, rfl, ⟨rfl, rfl, fun hp s H C cl fp => we_name 2 rfl rfl (.inl rfl) (⟨rfl, rfl⟩)⟩⟩)⟩)))))))))))))⟩) (we_list (wa_nil ⟨show 0 ≤ sizeLine by decide, wo_eqL0 (Nat.lt_of_succ_lt hu) (by first | rfl | exact VL.gL | assumption | exact VL.gA (by assumption) | exact VL.gA VL.gL | exact VL.gA (VL.gA (by assumption)) | exact VL.gM | exact VL.gA VL.gM | exact VL.gA (VL.gA VL.gL) | exact VL.gA (VL.gA (VL.gA VL.gL)) | exact VL.gD | exact VL.gA VL.gD | exact VL.gK (by assumption) | exact VL.gA (VL.gK (by assumption)) | exact VL.gA (VL.gA (VL.gK (by assumption))) | exact VL.gA (VL.gA (VL.gA (VL.gK (by assumption))))) (by first | rfl | exact VL.gL | assumption | exact VL.gA (by assumption) | exact VL.gA VL.gL | exact VL.gA (VL.gA (by assumption)) | exact VL.gM | exact VL.gA VL.gM | exact VL.gA (VL.gA VL.gL) | exact VL.gA (VL.gA (VL.gA VL.gL)) | exact VL.gD | exact VL.gA VL.gD | exact VL.gK (by assumption) | exact VL.gA (VL.gK (by assumption)) | exact VL.gA (VL.gA (VL.gK (by assumption))) | exact VL.gA (VL.gA (VL.gA (VL.gK (by assumption))))) (?_)⟩))⟩)))))))⟩⟩⟩)))))))))))))
    all_goals first
      | (cases hk; done)
      | (cases hk1; done)
      | skip
    · show D.bl false = D.bl (decide (xs.length = n) && _)
      have : ¬ xs.length = n := fun e => by
        rw [e] at hk1; simp at hk1
      rw [decide_eq_false this]; rfl
    · show D.bl _ = D.bl (decide (xs.length = n) && _)
      have : xs.length = n := by have : (xs.length : Int) = n := by simpa using hk1
                                 omega
      rw [decide_eq_true this, List.map_id']; rfl
  | _ =>
    refine wss_cons (ws_if (wt_w (wt_or2 (wt_not (wt_val (we_callB g_isinstance (by decide +kernel) rfl (wa_cons (we_name 0 rfl rfl (.inl rfl) (wa_cons (we_ty g_tuple rfl (by decide +kernel) (wa_nil (wc_isiT (by first | rfl | assumption) (⟨_, rfl, ⟨fun hk => False.elim ?_, fun hk => ⟨fun hk1 => wss_one (ws_ret (we_bl (?_))), fun hk1 => False.elim ?_⟩⟩⟩)))))))))))))
    all_goals first | rfl | (cases hk; done) | (cases hk1; done)
abbrev v_comp_error : VSp := pureV errP
abbrev len_comp_error := @errP_len
abbrev im_comp_error := @errP_im
abbrev s_comp_error : Stmt := topS 9
theorem sc_comp_error : FnScope ["value", "letters", "rows", "verdicts", "state", "row"] ["value"] (defScope s_comp_error) := ⟨rfl, rfl, rfl, by decide +kernel, rfl, by decide +kernel, by decide +kernel⟩
theorem ok_comp_error {f : Addr} {fd : FuncData} (F : Fun K "comp_error" "comp_error" s_comp_error f fd) (T : Txt K mg t_END t_LETTERS t_MAX_LETTERS) (D_is_integer : Dc P w K mg base 1 "is_integer" ["value", "least", "most"] v_is_integer) (D_are_verdicts : Dc P w K mg base 2 "are_verdicts" ["value", "states"] v_are_verdicts) (D_is_row : Dc P w K mg base 3 "is_row" ["value", "letters", "states"] v_is_row) : FnG P w K mg base 4 f fd ["value"] (spOf K v_comp_error) := by
  obtain ⟨g_END, g_LETTERS, g_MAX_LETTERS, g_abs, g_bool, g_enumerate, g_int, g_isinstance, g_len, g_list, g_max, g_range, g_repr, g_tuple⟩ := T
  have sc := sc_comp_error
  refine vfnP F sc_comp_error len_comp_error im_comp_error (fun cdv A outer s H hr hgd B dl v h => ?_)
  have hu := hu_of hr
  obtain ⟨d, hv, rfl, rfl⟩ := h
  have hk0 := val_tyK hv
  by_cases ht : ∃ l r m, d = .tup [l, r, m]
  · obtain ⟨l, r, m0, rfl⟩ := ht
    have hvs := val_tup hv
    have vl : l.val = true := hvs l (by simp)
    have vr : r.val = true := hvs r (by simp)
    have vm : m0.val = true := hvs m0 (by simp)
    have kl := val_tyK vl
    have kr := val_tyK vr
    cases h1 : intInD 1 3 l with
    | false =>
      refine wss_cons (ws_if (wt_w (wt_or2 (wt_not (wt_val (we_callB g_isinstance (by decide +kernel) rfl (wa_cons (we_name 0 rfl rfl (.inl rfl) (wa_cons (we_ty g_tuple rfl (by decide +kernel) (wa_nil (wc_isiT (by first | rfl | assumption) (⟨_, rfl, ⟨fun hk => wt_or1 (wt_cmp (we_callB g_len (by decide +kernel) rfl (wa_cons (we_name 0 rfl rfl (.inl rfl) (wa_nil (wc_lenT (we_int (wo_neI (⟨_, rfl, ⟨fun hk1 => False.elim ?_, fun hk1 => wss_nil (wss_cons (ws_asg (we_name 0 rfl rfl (.inl rfl) (wg_tup rfl rfl (by rfl) (wg_name 1 sc.nd rfl (.inl rfl) (.inl rfl) (wg_name 2 sc.nd rfl (.inl rfl) (.inl rfl) (wg_name 3 sc.nd rfl (.inl rfl) (.inl rfl) (wss_cons (ws_if (wt_not (wt_val (we_callP D_is_integer (hr.mono (by omega)) hgd rfl (wa_cons (we_name 1 rfl rfl (.inl rfl) (wa_cons (we_int (wa_cons (we_globI g_MAX_LETTERS rfl (wa_nil ((⟨im_iI vl, _, ⟨l, _, _, vl, rfl, rfl⟩, rfl, (⟨_, rfl, ⟨fun hk2 => wss_one (ws_ret (we_tup (wa_cons (we_non (wa_cons (we_str (wa_nil ⟨show 2 ≤ sizeLine by decide, ?_⟩))))))), fun hk2 => False.elim ?_⟩⟩)⟩)))))))))))))))))))))⟩⟩))))))))), fun hk => False.elim ?_⟩⟩)))))))))))))
      all_goals first
        | rfl
        | (cases hk; done)
        | (cases hk1; done)
        | (cases hk2; done)
        | (cases hk3; done)
        | (cases hk4; done)
        | (simp at hk; done)
        | (simp at hk1; done)
        | (simp at hk2; done)
        | (simp at hk3; done)
        | (simp at hk4; done)
        | skip
      all_goals try dsimp only
      · exact (err_letters h1).symm
      · rw [h1] at hk2; cases hk2
    | true =>
      obtain ⟨i, rfl⟩ : ∃ i, l = .int i := by
        cases l <;> first | exact ⟨_, rfl⟩ | cases h1
      have hi : 1 ≤ i ∧ i ≤ 3 := by simpa [intInD] using h1
      obtain ⟨L, rfl⟩ : ∃ L : Nat, i = (L : Int) := ⟨i.toNat, by omega⟩
      by_cases hr' : ∃ rs, r = .tup rs ∧ rs ≠ []
      · obtain ⟨rs, rfl, hne⟩ := hr'
        have vrs := val_tup vr
        refine wss_cons (ws_if (wt_w (wt_or2 (wt_not (wt_val (we_callB g_isinstance (by decide +kernel) rfl (wa_cons (we_name 0 rfl rfl (.inl rfl) (wa_cons (we_ty g_tuple rfl (by decide +kernel) (wa_nil (wc_isiT (by first | rfl | assumption) (⟨_, rfl, ⟨fun hk => wt_or1 (wt_cmp (we_callB g_len (by decide +kernel) rfl (wa_cons (we_name 0 rfl rfl (.inl rfl) (wa_nil (wc_lenT (we_int (wo_neI (⟨_, rfl, ⟨fun hk1 => False.elim ?_, fun hk1 => wss_nil (wss_cons (ws_asg (we_name 0 rfl rfl (.inl rfl) (wg_tup rfl rfl (by rfl) (wg_name 1 sc.nd rfl (.inl rfl) (.inl rfl) (wg_name 2 sc.nd rfl (.inl rfl) (.inl rfl) (wg_name 3 sc.nd rfl (.inl rfl) (.inl rfl) (wss_cons (ws_if (wt_not (wt_val (we_callP D_is_integer (hr.mono (by omega)) hgd rfl (wa_cons (we_name 1 rfl rfl (.inl rfl) (wa_cons (we_int (wa_cons (we_globI g_MAX_LETTERS rfl (wa_nil ((⟨im_iI vl, _, ⟨.int L, _, _, vl, rfl, rfl⟩, rfl, (⟨_, rfl, ⟨fun hk2 => False.elim ?_, fun hk2 => wss_nil (wss_cons (ws_if (wt_w (wt_or2 (wt_not (wt_val (we_callB g_isinstance (by decide +kernel) rfl (wa_cons (we_name 2 rfl rfl (.inl rfl) (wa_cons (we_ty g_tuple rfl (by decide +kernel) (wa_nil (wc_isiT (by first | rfl | assumption) (⟨_, rfl, ⟨fun hk => wt_or1 (wt_cmp (we_name 2 rfl rfl (.inl rfl) (we_tup (wa_nil ⟨show 0 ≤ sizeLine by decide, wo_eqT0 (Nat.lt_of_succ_lt hu) (⟨_, rfl, ⟨fun hk3 => False.elim ?_, fun hk3 => wss_nil (?_)⟩⟩)⟩)))), fun hk => False.elim ?_⟩⟩))))))))))))))⟩⟩)⟩)))))))))))))))))))))⟩⟩))))))))), fun hk => False.elim ?_⟩⟩)))))))))))))
        all_goals first
          | rfl
          | (cases hk; done)
          | (cases hk1; done)
          | (cases hk2; done)
          | (cases hk3; done)
          | (cases hk4; done)
          | (simp at hk; done)
          | (simp at hk1; done)
          | (simp at hk2; done)
          | (simp at hk3; done)
          | (simp at hk4; done)
          | skip
        all_goals try dsimp only
        · rw [h1] at hk2; cases hk2
        · cases rs with
          | nil => exact hne rfl
          | cons _ _ => cases hk3
        refine wss_cons (ws_for rfl PassesOwn.never (wi_enum g_enumerate rfl (we_name 2 rfl rfl (.inl rfl) (⟨_, _, .tup _, ?_⟩))))
        refine ⟨fun i ds m => ∃ o1 o2, ds = [some (.tup [.int L, .tup rs, m0]), some (.int L), some (.tup rs), some m0, o1, o2] ∧ m = [] ∧ ∀ j x, j < i → rs[j]? = some x → isRowD L rs.length x = true, ⟨none, none, rfl, rfl, fun _ _ h => absurd h (Nat.not_lt_zero _)⟩, fun _ _ _ _ => trivial, ?_, ?_⟩
        · rintro i d ds m hi' ⟨o1, o2, rfl, rfl, hp⟩
          obtain ⟨x, hx, rfl⟩ := enum_at hi'
          have vx := vrs x (List.mem_of_getElem? hx)
          refine wg_tup rfl rfl (by rfl) (wg_name 4 sc.nd rfl (.inl rfl) (.inl rfl) (wg_name 5 sc.nd rfl (.inl rfl) (.inl rfl) (wss_one (ws_if (wt_not (wt_val (we_callP D_is_row (hr.mono (by omega)) hgd rfl (wa_cons (we_name 5 rfl rfl (.inl rfl) (wa_cons (we_name 1 rfl rfl (.inl rfl) (wa_cons (we_callB g_len (by decide +kernel) rfl (wa_cons (we_name 2 rfl rfl (.inl rfl) (wa_nil (wc_lenT (wa_nil ((⟨im_iI vx, _, ⟨x, _, _, vx, by omega, by omega, rfl, rfl⟩, rfl, (⟨_, rfl, ⟨fun hk1 => wss_one (ws_ret (we_tup (wa_cons (we_name 4 rfl rfl (.inl rfl) (wa_cons (we_str (wa_nil ⟨show 2 ≤ sizeLine by decide, ?_⟩))))))), fun hk1 => wss_nil (?_)⟩⟩)⟩))))))))))))))))))))
          · have hb : isRowD L rs.length x = false := by simpa using hk1
            show D.tup [.int (i : Nat), .str "row"] = _
            rw [err_in h1 hne, errR_row hx hb hp]; rfl
          · have hb : isRowD L rs.length x = true := by simpa using hk1
            refine ⟨_, _, rfl, rfl, fun j y hj hy => ?_⟩
            by_cases e : j = i
            · subst e; rw [hx] at hy; cases hy; exact hb
            · exact hp j y (by omega) hy
        · rintro ds m ⟨o1, o2, rfl, rfl, hp⟩
          have hall : ∀ x ∈ rs, isRowD L rs.length x = true := fun x hx => by
            obtain ⟨j, hj, e⟩ := List.getElem_of_mem hx
            exact hp j x (by rw [enum_len]; exact hj) (by rw [List.getElem?_eq_getElem hj, e])
          refine wss_one (ws_ret (we_ifExp (wt_val (we_callP D_are_verdicts (hr.mono (by omega)) hgd rfl (wa_cons (we_name 3 rfl rfl (.inl rfl) (wa_cons (we_callB g_len (by decide +kernel) rfl (wa_cons (we_name 2 rfl rfl (.inl rfl) (wa_nil (wc_lenT (wa_nil ((⟨im_iM vm, _, ⟨m0, _, vm, rfl, rfl⟩, rfl, (⟨_, rfl, ⟨fun hk => we_non (?_), fun hk => we_tup (wa_cons (we_non (wa_cons (we_str (wa_nil ⟨show 2 ≤ sizeLine by decide, ?_⟩)))))⟩⟩)⟩)))))))))))))))
          · show D.non = _
            rw [err_in h1 hne, errR_none hall, if_pos hk]
          · show D.tup [.non, .str "verdicts"] = _
            rw [err_in h1 hne, errR_none hall, if_neg (by rw [hk]; decide)]; rfl
      · have hE := err_rows (m := m0) h1 fun rs e => Classical.byContradiction fun hn => hr' ⟨rs, e, hn⟩
        rw [hE]
        cases r with
        | tup rs =>
          have hre : rs = [] := Classical.byContradiction fun hn => hr' ⟨rs, rfl, hn⟩
          subst hre
          refine wss_cons (ws_if (wt_w (wt_or2 (wt_not (wt_val (we_callB g_isinstance (by decide +kernel) rfl (wa_cons (we_name 0 rfl rfl (.inl rfl) (wa_cons (we_ty g_tuple rfl (by decide +kernel) (wa_nil (wc_isiT (by first | rfl | assumption) (⟨_, rfl, ⟨fun hk => wt_or1 (wt_cmp (we_callB g_len (by decide +kernel) rfl (wa_cons (we_name 0 rfl rfl (.inl rfl) (wa_nil (wc_lenT (we_int (wo_neI (⟨_, rfl, ⟨fun hk1 => False.elim ?_, fun hk1 => wss_nil (wss_cons (ws_asg (we_name 0 rfl rfl (.inl rfl) (wg_tup rfl rfl (by rfl) (wg_name 1 sc.nd rfl (.inl rfl) (.inl rfl) (wg_name 2 sc.nd rfl (.inl rfl) (.inl rfl) (wg_name 3 sc.nd rfl (.inl rfl) (.inl rfl) (wss_cons (ws_if (wt_not (wt_val (we_callP D_is_integer (hr.mono (by omega)) hgd rfl (wa_cons (we_name 1 rfl rfl (.inl rfl) (wa_cons (we_int (wa_cons (we_globI g_MAX_LETTERS rfl (wa_nil ((⟨im_iI vl, _, ⟨.int L, _, _, vl, rfl, rfl⟩, rfl, (⟨_, rfl, ⟨fun hk2 => False.elim ?_, fun hk2 => wss_nil (wss_cons (ws_if (wt_w (wt_or2 (wt_not (wt_val (we_callB g_isinstance (by decide +kernel) rfl (wa_cons (we_name 2 rfl rfl (.inl rfl) (wa_cons (we_ty g_tuple rfl (by decide +kernel) (wa_nil (wc_isiT (by first | rfl | assumption) (⟨_, rfl, ⟨fun hk => wt_or1 (wt_cmp (we_name 2 rfl rfl (.inl rfl) (we_tup (wa_nil ⟨show 0 ≤ sizeLine by decide, wo_eqT0 (Nat.lt_of_succ_lt hu) (⟨_, rfl, ⟨fun hk3 => wss_one (ws_ret (we_tup (wa_cons (we_non (wa_cons (we_str (wa_nil ⟨show 2 ≤ sizeLine by decide, ?_⟩))))))), fun hk3 => False.elim ?_⟩⟩)⟩)))), fun hk => ⟨fun hk3 => wss_one (ws_ret (we_tup (wa_cons (we_non (wa_cons (we_str (wa_nil ⟨show 2 ≤ sizeLine by decide, ?_⟩))))))), fun hk3 => False.elim ?_⟩⟩⟩))))))))))))))⟩⟩)⟩)))))))))))))))))))))⟩⟩))))))))), fun hk => False.elim ?_⟩⟩)))))))))))))
          all_goals first
            | rfl
            | (cases hk; done)
            | (cases hk1; done)
            | (cases hk2; done)
            | (cases hk3; done)
            | (cases hk4; done)
            | (simp at hk; done)
            | (simp at hk1; done)
            | (simp at hk2; done)
            | (simp at hk3; done)
            | (simp at hk4; done)
            | skip
          all_goals try dsimp only
          all_goals (rw [h1] at hk2; cases hk2)
        | _ =>
          refine wss_cons (ws_if (wt_w (wt_or2 (wt_not (wt_val (we_callB g_isinstance (by decide +kernel) rfl (wa_cons (we_name 0 rfl rfl (.inl rfl) (wa_cons (we_ty g_tuple rfl (by decide +kernel) (wa_nil (wc_isiT (by first | rfl | assumption) (⟨_, rfl, ⟨fun hk => wt_or1 (wt_cmp (we_callB g_len (by decide +kernel) rfl (wa_cons (we_name 0 rfl rfl (.inl rfl) (wa_nil (wc_lenT (we_int (wo_neI (⟨_, rfl, ⟨fun hk1 => False.elim ?_, fun hk1 => wss_nil (wss_cons (ws_asg (we_name 0 rfl rfl (.inl rfl) (wg_tup rfl rfl (by rfl) (wg_name 1 sc.nd rfl (.inl rfl) (.inl rfl) (wg_name 2 sc.nd rfl (.inl rfl) (.inl rfl) (wg_name 3 sc.nd rfl (.inl rfl) (.inl rfl) (wss_cons (ws_if (wt_not (wt_val (we_callP D_is_integer (hr.mono (by omega)) hgd rfl (wa_cons (we_name 1 rfl rfl (.inl rfl) (wa_cons (we_int (wa_cons (we_globI g_MAX_LETTERS rfl (wa_nil ((⟨im_iI vl, _, ⟨.int L, _, _, vl, rfl, rfl⟩, rfl, (⟨_, rfl, ⟨fun hk2 => False.elim ?_, fun hk2 => wss_nil (wss_cons (ws_if (wt_w (wt_or2 (wt_not (wt_val (we_callB g_isinstance (by decide +kernel) rfl (wa_cons (we_name 2 rfl rfl (.inl rfl) (wa_cons (we_ty g_tuple rfl (by decide +kernel) (wa_nil (wc_isiT (by first | rfl | assumption) (⟨_, rfl, ⟨fun hk => False.elim ?_, fun hk => ⟨fun hk3 => wss_one (ws_ret (we_tup (wa_cons (we_non (wa_cons (we_str (wa_nil ⟨show 2 ≤ sizeLine by decide, ?_⟩))))))), fun hk3 => False.elim ?_⟩⟩⟩))))))))))))))⟩⟩)⟩)))))))))))))))))))))⟩⟩))))))))), fun hk => False.elim ?_⟩⟩)))))))))))))
          all_goals first
            | rfl
            | (cases hk; done)
            | (cases hk1; done)
            | (cases hk2; done)
            | (cases hk3; done)
            | (cases hk4; done)
            | (simp at hk; done)
            | (simp at hk1; done)
            | (simp at hk2; done)
            | (simp at hk3; done)
            | (simp at hk4; done)
            | skip
          all_goals try dsimp only
          all_goals (rw [h1] at hk2; cases hk2)
  · rw [err_comp ht]
    cases d with
    | tup xs =>
      have hx : ¬ (xs.length : Int) = 3 := fun e => by
        have e : xs.length = 3 := by omega
        match xs, e with
        | [a, b, c], _ => exact ht ⟨a, b, c, rfl⟩
      refine wss_cons (ws_if (wt_w (wt_or2 (wt_not (wt_val (we_callB g_isinstance (by decide +kernel) rfl (wa_cons (we_name 0 rfl rfl (.inl rfl) (wa_cons (we_ty g_tuple rfl (by decide +kernel) (wa_nil (wc_isiT (by first | rfl | assumption) (⟨_, rfl, ⟨fun hk => wt_or1 (wt_cmp (we_callB g_len (by decide +kernel) rfl (wa_cons (we_name 0 rfl rfl (.inl rfl) (wa_nil (wc_lenT (we_int (wo_neI (⟨_, rfl, ⟨fun hk1 => wss_one (ws_ret (we_tup (wa_cons (we_non (wa_cons (we_str (wa_nil ⟨show 2 ≤ sizeLine by decide, ?_⟩))))))), fun hk1 => False.elim ?_⟩⟩))))))))), fun hk => ⟨fun hk1 => wss_one (ws_ret (we_tup (wa_cons (we_non (wa_cons (we_str (wa_nil ⟨show 2 ≤ sizeLine by decide, ?_⟩))))))), fun hk1 => False.elim ?_⟩⟩⟩)))))))))))))
      all_goals first
        | rfl
        | (cases hk; done)
        | (cases hk1; done)
        | (cases hk2; done)
        | (cases hk3; done)
        | (cases hk4; done)
        | (simp at hk; done)
        | (simp at hk1; done)
        | (simp at hk2; done)
        | (simp at hk3; done)
        | (simp at hk4; done)
        | skip
      all_goals try dsimp only
      all_goals (first | (simp at hk1; exact hx hk1) | skip)
    | _ =>
      refine wss_cons (ws_if (wt_w (wt_or2 (wt_not (wt_val (we_callB g_isinstance (by decide +kernel) rfl (wa_cons (we_name 0 rfl rfl (.inl rfl) (wa_cons (we_ty g_tuple rfl (by decide +kernel) (wa_nil (wc_isiT (by first | rfl | assumption) (⟨_, rfl, ⟨fun hk => False.elim ?_, fun hk => ⟨fun hk1 => wss_one (ws_ret (we_tup (wa_cons (we_non (wa_cons (we_str (wa_nil ⟨show 2 ≤ sizeLine by decide, ?_⟩))))))), fun hk1 => False.elim ?_⟩⟩⟩)))))))))))))
      all_goals first
        | rfl
        | (cases hk; done)
        | (cases hk1; done)
        | (cases hk2; done)
        | (cases hk3; done)
        | (cases hk4; done)
        | (simp at hk; done)
        | (simp at hk1; done)
        | (simp at hk2; done)
        | (simp at hk3; done)
        | (simp at hk4; done)
        | skip
      all_goals try dsimp only
/-! ### the law's defs -/
abbrev v__law_deck : VSp := deckP
abbrev len__law_deck := @len_deckP
abbrev s__law_deck : Stmt := topS 11
theorem sc__law_deck : FnScope ["_law_script", "_law_cell"] ["_law_script"] (defScope s__law_deck) := ⟨rfl, rfl, rfl, by decide +kernel, rfl, by decide +kernel, by decide +kernel⟩
theorem ok__law_deck {f : Addr} {fd : FuncData} (F : Fun K "_law_deck" "_law_deck" s__law_deck f fd) (T : Txt K mg t_END t_LETTERS t_MAX_LETTERS) : FnG P w K mg base 1 f fd ["_law_script"] (spOf K v__law_deck) := by
  obtain ⟨g_END, g_LETTERS, g_MAX_LETTERS, g_abs, g_bool, g_enumerate, g_int, g_isinstance, g_len, g_list, g_max, g_range, g_repr, g_tuple⟩ := T
  have sc := sc__law_deck
  refine vfn F sc__law_deck len__law_deck (fun cdv A outer s H hr hgd B dl ms R h => ?_)
  have hu := hu_of hr
  obtain ⟨ns, hl, rfl, rfl, q⟩ := h
  let cs : List Int := (ns.take 63).map fun i => if i < 0 then -i else i
  refine wss_ret (fun d m => d = .obj 2 ∧ ∃ l0, m = [l0, .lst (cs.map D.int), .lst [.obj 1, .int 0]]) (fun d m h => ?_) ?_
  · obtain ⟨rfl, l0, rfl⟩ := h
    refine ⟨[1, 2], dk cs 0, .obj 1, ⟨by decide, rfl, fun j k e => ?_, rfl⟩, fun j (hj : j < 0) => absurd hj (Nat.not_lt_zero j), q cs ⟨fun x hx => ?_, ?_, Int.le_refl 0⟩⟩
    · match j, e with
      | 0, e => cases e; exact ⟨_, rfl, by rw [lst_ren, ints_ren]; rfl⟩
      | 1, e => cases e; exact ⟨_, rfl, rfl⟩
      | j + 2, e => cases e
    · obtain ⟨i, _, rfl⟩ := List.mem_map.mp hx
      split <;> omega
    · rw [List.length_map, List.length_take]; omega
  refine wss_one (ws_ret (we_list (wa_cons (we_lc rfl sc.nd (own := [("_law_cell", 1)]) (blkOk_by rfl) (tg_name 1 sc.nd rfl rfl (by decide)) (wi_list (we_slice (we_name 0 rfl rfl (.inl rfl) (we_int (⟨_, rfl, wl_R (⟨_, _, rfl, (by first | rfl | exact VL.gL | assumption | exact VL.gA (by assumption) | exact VL.gA VL.gL | exact VL.gA (VL.gA (by assumption)) | exact VL.gM | exact VL.gA VL.gM | exact VL.gA (VL.gA VL.gL) | exact VL.gA (VL.gA (VL.gA VL.gL)) | exact VL.gD | exact VL.gA VL.gD | exact VL.gK (by assumption) | exact VL.gA (VL.gK (by assumption)) | exact VL.gA (VL.gA (VL.gK (by assumption))) | exact VL.gA (VL.gA (VL.gA (VL.gK (by assumption))))), lc_mapE (ns.take 63) D.int (fun i => D.int (if i < 0 then -i else i)) ?_ ?_ rfl (fun i hi => ⟨_, rfl, fun B s H C cl fp => we_callB g_abs (by decide +kernel) rfl (wa_cons (we_name 1 rfl rfl (.inl rfl) (wa_nil (wc_abs ((⟨rfl, rfl⟩))))))⟩) (wa_cons (we_int (wa_nil ⟨show 2 ≤ sizeLine by decide, ?_⟩)))⟩)⟩)))))))))
  · rw [cutD_eq, show (some (63 : Int)) = some ((63 : Nat) : Int) from rfl, cutN_to, List.map_take]
  · exact Nat.le_trans (by rw [List.length_take]; omega : _ ≤ 63) (by decide)
  · refine ⟨rfl, .lst (cutD (ns.map D.int) none (some 63)), ?_⟩
    rw [show (ns.take 63).map (fun i => D.int (if i < 0 then -i else i)) = cs.map D.int from (List.map_map ..).symm]
    rfl
abbrev v__law_draw : VSp := drawP
abbrev len__law_draw := @len_drawP
abbrev s__law_draw : Stmt := topS 12
theorem sc__law_draw : FnScope ["_law_deck_here", "_law_most", "_law_cell", "_law_at", "_law_mixed"] ["_law_deck_here", "_law_most"] (defScope s__law_draw) := ⟨rfl, rfl, rfl, by decide +kernel, rfl, by decide +kernel, by decide +kernel⟩
theorem ok__law_draw {f : Addr} {fd : FuncData} (F : Fun K "_law_draw" "_law_draw" s__law_draw f fd) (T : Txt K mg t_END t_LETTERS t_MAX_LETTERS) : FnG P w K mg base 1 f fd ["_law_deck_here", "_law_most"] (spOf K v__law_draw) := by
  obtain ⟨g_END, g_LETTERS, g_MAX_LETTERS, g_abs, g_bool, g_enumerate, g_int, g_isinstance, g_len, g_list, g_max, g_range, g_repr, g_tuple⟩ := T
  have sc := sc__law_draw
  refine vfn F sc__law_draw len__law_draw (fun cdv A outer s H hr hgd B dl ms R h => ?_)
  have hu := hu_of hr
  obtain ⟨cells, c, dl', rfl, rfl, ok, hc, ⟨most, rfl, hm0, hm1⟩, q⟩ := h
  have c0 := ok.cn
  have hcc : c + 1 ≤ 1099511627776 := hc
  refine wss_cons (ws_asg (we_bin (we_ix (we_name 0 rfl rfl (.inl rfl) (we_int (wx_L (by first | rfl | exact VL.gL | assumption | exact VL.gA (by assumption) | exact VL.gA VL.gL | exact VL.gA (VL.gA (by assumption)) | exact VL.gM | exact VL.gA VL.gM | exact VL.gA (VL.gA VL.gL) | exact VL.gA (VL.gA (VL.gA VL.gL)) | exact VL.gD | exact VL.gA VL.gD | exact VL.gK (by assumption) | exact VL.gA (VL.gK (by assumption)) | exact VL.gA (VL.gA (VL.gK (by assumption))) | exact VL.gA (VL.gA (VL.gA (VL.gK (by assumption))))) (by rfl) (we_int (wo_addI (wg_subL (we_name 0 rfl rfl (.inl rfl) (we_int (⟨_, _, _, _, rfl, rfl, by rfl, (by rfl), wss_cons (ws_asg (we_tup (wa_cons (we_int (wa_cons (we_un (we_int (wu_neg (wa_nil ⟨show 2 ≤ sizeLine by decide, wg_tup rfl rfl (by rfl) (wg_name 2 sc.nd rfl (.inl rfl) (.inl rfl) (wg_name 3 sc.nd rfl (.inl rfl) (.inl rfl) (?_)))⟩)))))))))⟩))))))))))))
  refine wss_mid (fun ds m => ∃ cell at_ : Int, 0 ≤ cell ∧ (10 ^ 18 ≤ cell → ∃ j, ixN (cells.map D.int).length at_ = some j) ∧ ds = [some (.obj 1), some (.int most), some (.int cell), some (.int at_), none] ∧ m = dk cells (c + 1)) ?_ (fun ds m h => ?_)
  · by_cases hl : cells = []
    · subst hl
      refine ws_if (wt_cmp (we_callB g_len (by decide +kernel) rfl (wa_cons (we_ix (we_name 0 rfl rfl (.inl rfl) (we_int (wx_L (by first | rfl | exact VL.gL | assumption | exact VL.gA (by assumption) | exact VL.gA VL.gL | exact VL.gA (VL.gA (by assumption)) | exact VL.gM | exact VL.gA VL.gM | exact VL.gA (VL.gA VL.gL) | exact VL.gA (VL.gA (VL.gA VL.gL)) | exact VL.gD | exact VL.gA VL.gD | exact VL.gK (by assumption) | exact VL.gA (VL.gK (by assumption)) | exact VL.gA (VL.gA (VL.gK (by assumption))) | exact VL.gA (VL.gA (VL.gA (VL.gK (by assumption))))) (by rfl) (wa_nil (wc_lenL (by first | rfl | exact VL.gL | assumption | exact VL.gA (by assumption) | exact VL.gA VL.gL | exact VL.gA (VL.gA (by assumption)) | exact VL.gM | exact VL.gA VL.gM | exact VL.gA (VL.gA VL.gL) | exact VL.gA (VL.gA (VL.gA VL.gL)) | exact VL.gD | exact VL.gA VL.gD | exact VL.gK (by assumption) | exact VL.gA (VL.gK (by assumption)) | exact VL.gA (VL.gA (VL.gK (by assumption))) | exact VL.gA (VL.gA (VL.gA (VL.gK (by assumption))))) (we_int (wo_gtI (⟨_, rfl, ⟨fun hk1 => False.elim ?_, fun hk1 => wss_nil (?_)⟩⟩))))))))))))
      · exact absurd hk1 (by decide)
      · exact ⟨0, -1, by decide, fun h => absurd h (by decide), rfl, rfl⟩
    · have hpos : 0 < cells.length := List.length_pos_iff.mpr hl
      have g0 : 0 ≤ (c + 1) % ((cells.map D.int).length : Int) := Int.emod_nonneg _ (by rw [List.length_map]; omega)
      have g1 : (c + 1) % ((cells.map D.int).length : Int) < (cells.map D.int).length := Int.emod_lt_of_pos _ (by rw [List.length_map]; omega)
      generalize hj : ((c + 1) % ((cells.map D.int).length : Int)) = jj at g0 g1
      obtain ⟨j, rfl⟩ : ∃ j : Nat, jj = j := ⟨jj.toNat, by omega⟩
      have hjl : j < cells.length := by rw [List.length_map] at g1; omega
      have hx : atI (cells.map D.int) ((c + 1) % ((cells.map D.int).length : Int)) = some (.int cells[j]) := by
        rw [hj]; exact atI_nat (by rw [List.getElem?_map, List.getElem?_eq_getElem hjl]; rfl)
      refine ws_if (wt_cmp (we_callB g_len (by decide +kernel) rfl (wa_cons (we_ix (we_name 0 rfl rfl (.inl rfl) (we_int (wx_L (by first | rfl | exact VL.gL | assumption | exact VL.gA (by assumption) | exact VL.gA VL.gL | exact VL.gA (VL.gA (by assumption)) | exact VL.gM | exact VL.gA VL.gM | exact VL.gA (VL.gA VL.gL) | exact VL.gA (VL.gA (VL.gA VL.gL)) | exact VL.gD | exact VL.gA VL.gD | exact VL.gK (by assumption) | exact VL.gA (VL.gK (by assumption)) | exact VL.gA (VL.gA (VL.gK (by assumption))) | exact VL.gA (VL.gA (VL.gA (VL.gK (by assumption))))) ((by rfl)) (wa_nil (wc_lenL (by first | rfl | exact VL.gL | assumption | exact VL.gA (by assumption) | exact VL.gA VL.gL | exact VL.gA (VL.gA (by assumption)) | exact VL.gM | exact VL.gA VL.gM | exact VL.gA (VL.gA VL.gL) | exact VL.gA (VL.gA (VL.gA VL.gL)) | exact VL.gD | exact VL.gA VL.gD | exact VL.gK (by assumption) | exact VL.gA (VL.gK (by assumption)) | exact VL.gA (VL.gA (VL.gK (by assumption))) | exact VL.gA (VL.gA (VL.gA (VL.gK (by assumption))))) (we_int (wo_gtI (⟨_, rfl, ⟨fun hk1 => wss_cons (ws_set 3 sc.nd rfl (.inl rfl) (.inl rfl) (we_bin (we_callTy g_int (by decide +kernel) rfl (wa_cons (we_ix (we_name 0 rfl rfl (.inl rfl) (we_int (wx_L (by first | rfl | exact VL.gL | assumption | exact VL.gA (by assumption) | exact VL.gA VL.gL | exact VL.gA (VL.gA (by assumption)) | exact VL.gM | exact VL.gA VL.gM | exact VL.gA (VL.gA VL.gL) | exact VL.gA (VL.gA (VL.gA VL.gL)) | exact VL.gD | exact VL.gA VL.gD | exact VL.gK (by assumption) | exact VL.gA (VL.gK (by assumption)) | exact VL.gA (VL.gA (VL.gK (by assumption))) | exact VL.gA (VL.gA (VL.gA (VL.gK (by assumption))))) ((by rfl)) (wa_nil (wc_int (we_callB g_len (by decide +kernel) rfl (wa_cons (we_ix (we_name 0 rfl rfl (.inl rfl) (we_int (wx_L (by first | rfl | exact VL.gL | assumption | exact VL.gA (by assumption) | exact VL.gA VL.gL | exact VL.gA (VL.gA (by assumption)) | exact VL.gM | exact VL.gA VL.gM | exact VL.gA (VL.gA VL.gL) | exact VL.gA (VL.gA (VL.gA VL.gL)) | exact VL.gD | exact VL.gA VL.gD | exact VL.gK (by assumption) | exact VL.gA (VL.gK (by assumption)) | exact VL.gA (VL.gA (VL.gK (by assumption))) | exact VL.gA (VL.gA (VL.gA (VL.gK (by assumption))))) ((by rfl)) (wa_nil (wc_lenL (by first | rfl | exact VL.gL | assumption | exact VL.gA (by assumption) | exact VL.gA VL.gL | exact VL.gA (VL.gA (by assumption)) | exact VL.gM | exact VL.gA VL.gM | exact VL.gA (VL.gA VL.gL) | exact VL.gA (VL.gA (VL.gA VL.gL)) | exact VL.gD | exact VL.gA VL.gD | exact VL.gK (by assumption) | exact VL.gA (VL.gK (by assumption)) | exact VL.gA (VL.gA (VL.gK (by assumption))) | exact VL.gA (VL.gA (VL.gA (VL.gK (by assumption))))) (wo_modI (?_) (wss_one (ws_set 2 sc.nd rfl (.inl rfl) (.inl rfl) (we_ix (we_ix (we_name 0 rfl rfl (.inl rfl) (we_int (wx_L (by first | rfl | exact VL.gL | assumption | exact VL.gA (by assumption) | exact VL.gA VL.gL | exact VL.gA (VL.gA (by assumption)) | exact VL.gM | exact VL.gA VL.gM | exact VL.gA (VL.gA VL.gL) | exact VL.gA (VL.gA (VL.gA VL.gL)) | exact VL.gD | exact VL.gA VL.gD | exact VL.gK (by assumption) | exact VL.gA (VL.gK (by assumption)) | exact VL.gA (VL.gA (VL.gK (by assumption))) | exact VL.gA (VL.gA (VL.gA (VL.gK (by assumption))))) ((by rfl)) (we_name 3 rfl rfl (.inl rfl) (wx_L (by first | rfl | exact VL.gL | assumption | exact VL.gA (by assumption) | exact VL.gA VL.gL | exact VL.gA (VL.gA (by assumption)) | exact VL.gM | exact VL.gA VL.gM | exact VL.gA (VL.gA VL.gL) | exact VL.gA (VL.gA (VL.gA VL.gL)) | exact VL.gD | exact VL.gA VL.gD | exact VL.gK (by assumption) | exact VL.gA (VL.gK (by assumption)) | exact VL.gA (VL.gA (VL.gK (by assumption))) | exact VL.gA (VL.gA (VL.gA (VL.gK (by assumption))))) (hx) (?_))))))))))))))))))))))))))))), fun hk1 => False.elim ?_⟩⟩))))))))))))
      · rw [List.length_map]; omega
      · refine ⟨cells[j], _, ok.nn _ (List.getElem_mem hjl), fun _ => ⟨j, ?_⟩, rfl, rfl⟩
        rw [hj]; unfold ixN; rw [if_pos (by omega), if_pos (by omega)]; rfl
      · exact absurd (of_decide_eq_false hk1) (by rw [List.length_map]; omega)
  · obtain ⟨cell, at_, hcell, hat, rfl, rfl⟩ := h
    have hq : ∀ (cells' : List Int) (k : Int), DkOk cells' (c + 1) → 0 ≤ k → k < most → R (.int k) (dk cells' (c + 1)) := fun cells' k h1 h2 h3 => q k cells' (c + 1) h1 (by omega) (Int.le_refl _) fun m e => by cases e; exact ⟨h2, h3⟩
    by_cases hbig : (10 : Int) ^ 18 ≤ cell
    · obtain ⟨j, hj⟩ := hat hbig
      refine wss_cons (ws_if (wt_cmp (we_name 2 rfl rfl (.inl rfl) (we_bin (we_int (we_int (wo_powI (⟨by decide, by decide, by decide⟩) (wo_geI (⟨_, rfl, ⟨fun hk1 => wss_cons (ws_asg (we_bin (we_callTy g_int (by decide +kernel) rfl (wa_cons (we_name 2 rfl rfl (.inl rfl) (wa_nil (wc_int (we_name 1 rfl rfl (.inl rfl) (wo_divI (divw hm0 hm1) (wg_subL (we_ix (we_name 0 rfl rfl (.inl rfl) (we_int (wx_L (by first | rfl | exact VL.gL | assumption | exact VL.gA (by assumption) | exact VL.gA VL.gL | exact VL.gA (VL.gA (by assumption)) | exact VL.gM | exact VL.gA VL.gM | exact VL.gA (VL.gA VL.gL) | exact VL.gA (VL.gA (VL.gA VL.gL)) | exact VL.gD | exact VL.gA VL.gD | exact VL.gK (by assumption) | exact VL.gA (VL.gK (by assumption)) | exact VL.gA (VL.gA (VL.gK (by assumption))) | exact VL.gA (VL.gA (VL.gA (VL.gK (by assumption))))) ((by rfl)) (we_name 3 rfl rfl (.inl rfl) (⟨_, _, _, _, rfl, rfl, by rfl, (hj), wss_one (ws_ret (we_bin (we_callTy g_int (by decide +kernel) rfl (wa_cons (we_name 2 rfl rfl (.inl rfl) (wa_nil (wc_int (we_name 1 rfl rfl (.inl rfl) (wo_modI (hm0) (?_))))))))))⟩)))))))))))))))), fun hk1 => False.elim ?_⟩⟩)))))))))
      · rw [show ((cells.map D.int).set j (.int (cell / most))) = (cells.set j (cell / most)).map D.int by rw [List.map_set]]
        refine hq _ _ ⟨fun x hx => ?_, by rw [List.length_set]; exact ok.len, by omega⟩ (Int.emod_nonneg _ (by omega)) (Int.emod_lt_of_pos _ hm0)
        rcases List.mem_or_eq_of_mem_set hx with h | h
        · exact ok.nn x h
        · rw [h]; exact Int.ediv_nonneg hcell (by omega)
      · exact (of_decide_eq_false hk1) hbig
    · have g0 : 0 ≤ cell % 2147483249 := Int.emod_nonneg _ (by decide)
      have g1 : cell % 2147483249 < 2147483249 := Int.emod_lt_of_pos _ (by decide)
      refine wss_cons (ws_if (wt_cmp (we_name 2 rfl rfl (.inl rfl) (we_bin (we_int (we_int (wo_powI (⟨by decide, by decide, by decide⟩) (wo_geI (⟨_, rfl, ⟨fun hk1 => False.elim ?_, fun hk1 => wss_nil (wss_cons (ws_set 4 sc.nd rfl (.inl rfl) (.inl rfl) (we_bin (we_bin (we_bin (we_callTy g_int (by decide +kernel) rfl (wa_cons (we_name 2 rfl rfl (.inl rfl) (wa_nil (wc_int (we_int (wo_modI ((by decide)) (we_bin (we_int (we_ix (we_name 0 rfl rfl (.inl rfl) (we_int (wx_L (by first | rfl | exact VL.gL | assumption | exact VL.gA (by assumption) | exact VL.gA VL.gL | exact VL.gA (VL.gA (by assumption)) | exact VL.gM | exact VL.gA VL.gM | exact VL.gA (VL.gA VL.gL) | exact VL.gA (VL.gA (VL.gA VL.gL)) | exact VL.gD | exact VL.gA VL.gD | exact VL.gK (by assumption) | exact VL.gA (VL.gK (by assumption)) | exact VL.gA (VL.gA (VL.gK (by assumption))) | exact VL.gA (VL.gA (VL.gA (VL.gK (by assumption))))) ((by rfl)) (wo_mulI (.inl ⟨by decide, by decide⟩) (wo_addI (we_int (wo_addI (wss_one (ws_ret (we_bin (we_callTy g_int (by decide +kernel) rfl (wa_cons (we_bin (we_callTy g_int (by decide +kernel) rfl (wa_cons (we_bin (we_name 4 rfl rfl (.inl rfl) (we_int (wo_powI (⟨by decide, by decide, by omega⟩) (wa_nil (wc_int (we_int (wo_modI ((by decide)) (wa_nil (wc_int (we_name 1 rfl rfl (.inl rfl) (wo_modI (hm0) (?_)))))))))))))))))))))))))))))))))))))))))))⟩⟩)))))))))
      · exact hbig (of_decide_eq_true hk1)
      · exact hq _ _ ⟨ok.nn, ok.len, by omega⟩ (Int.emod_nonneg _ (by omega)) (Int.emod_lt_of_pos _ hm0)
abbrev v__law_one : VSp := oneP
abbrev len__law_one := @len_oneP
abbrev s__law_one : Stmt := topS 13
theorem sc__law_one : FnScope ["_law_deck_here", "_law_items"] ["_law_deck_here", "_law_items"] (defScope s__law_one) := ⟨rfl, rfl, rfl, by decide +kernel, rfl, by decide +kernel, by decide +kernel⟩
theorem ok__law_one {f : Addr} {fd : FuncData} (F : Fun K "_law_one" "_law_one" s__law_one f fd) (T : Txt K mg t_END t_LETTERS t_MAX_LETTERS) (D__law_draw : Dc P w K mg base 1 "_law_draw" ["_law_deck_here", "_law_most"] v__law_draw) : FnG P w K mg base 2 f fd ["_law_deck_here", "_law_items"] (spOf K v__law_one) := by
  obtain ⟨g_END, g_LETTERS, g_MAX_LETTERS, g_abs, g_bool, g_enumerate, g_int, g_isinstance, g_len, g_list, g_max, g_range, g_repr, g_tuple⟩ := T
  have sc := sc__law_one
  refine vfn F sc__law_one len__law_one (fun cdv A outer s H hr hgd B dl ms R h => ?_)
  have hu := hu_of hr
  rcases h with h | h | h
  · obtain ⟨cells, c, items, rfl, rfl, ok, hn, hne, hl, q⟩ := h
    have hpos : 0 < items.length := List.length_pos_iff.mpr hne
    refine wss_one (ws_ret (we_ix (we_name 1 rfl rfl (.inl rfl) (we_callW D__law_draw (hr.mono (by omega)) hgd rfl (wa_cons (we_name 0 rfl rfl (.inl rfl) (wa_cons (we_callB g_len (by decide +kernel) rfl (wa_cons (we_name 1 rfl rfl (.inl rfl) (wa_nil (wc_lenL (by first | rfl | exact VL.gL | assumption | exact VL.gA (by assumption) | exact VL.gA VL.gL | exact VL.gA (VL.gA (by assumption)) | exact VL.gM | exact VL.gA VL.gM | exact VL.gA (VL.gA VL.gL) | exact VL.gA (VL.gA (VL.gA VL.gL)) | exact VL.gD | exact VL.gA VL.gD | exact VL.gK (by assumption) | exact VL.gA (VL.gK (by assumption)) | exact VL.gA (VL.gA (VL.gK (by assumption))) | exact VL.gA (VL.gA (VL.gA (VL.gK (by assumption))))) (wa_nil ((⟨cells, c, [.lst items], _, rfl, rfl, ok, rfl, hn, ⟨_, rfl, ?_, ?_⟩, fun k cells' c' ok' h1 h2 hp => ⟨rfl, (wx_L (by first | rfl | exact VL.gL | assumption | exact VL.gA (by assumption) | exact VL.gA VL.gL | exact VL.gA (VL.gA (by assumption)) | exact VL.gM | exact VL.gA VL.gM | exact VL.gA (VL.gA VL.gL) | exact VL.gA (VL.gA (VL.gA VL.gL)) | exact VL.gD | exact VL.gA VL.gD | exact VL.gK (by assumption) | exact VL.gA (VL.gK (by assumption)) | exact VL.gA (VL.gA (VL.gK (by assumption))) | exact VL.gA (VL.gA (VL.gA (VL.gK (by assumption))))) (atI_pick (hp _ rfl)) (?_))⟩⟩)))))))))))))))
    · omega
    · omega
    · exact q _ cells' c' ok' h1 h2 (List.get_mem _ _)
  · obtain ⟨cells, c, dl', rfl, rfl, ok, hn, ⟨l, rfl, hne, hl⟩, q⟩ := h
    have hpos : 0 < l.length := List.length_pos_iff.mpr hne
    have hlen : (mkS l).length ≤ sizeLine := by rw [mkS_len]; exact Nat.le_trans hl (by decide)
    refine wss_one (ws_ret (we_ix (we_name 1 rfl rfl (.inl rfl) (we_callW D__law_draw (hr.mono (by omega)) hgd rfl (wa_cons (we_name 0 rfl rfl (.inl rfl) (wa_cons (we_callB g_len (by decide +kernel) rfl (wa_cons (we_name 1 rfl rfl (.inl rfl) (wa_nil (wc_lenS (hlen) (wa_nil ((⟨cells, c, [], _, rfl, rfl, ok, rfl, hn, ⟨_, rfl, ?_, ?_⟩, fun k cells' c' ok' h1 h2 hp => ⟨rfl, (wx_S (hlen) (atI_pick (hp _ rfl)) (?_))⟩⟩)))))))))))))))
    · rw [mkS_len]; omega
    · rw [mkS_len]; omega
    · exact q _ cells' c' ok' h1 h2 fun l' e => by
        have e' : l = l' := mkS_inj (D.str.inj (List.cons.inj e).1)
        subst e'; exact List.get_mem _ _
  · obtain ⟨cells, c, dl', rfl, rfl, ok, hn, ⟨items, rfl, him, hne, hl⟩, q⟩ := h
    have hpos : 0 < items.length := List.length_pos_iff.mpr hne
    refine wss_one (ws_ret (we_ix (we_name 1 rfl rfl (.inl rfl) (we_callW D__law_draw (hr.mono (by omega)) hgd rfl (wa_cons (we_name 0 rfl rfl (.inl rfl) (wa_cons (we_callB g_len (by decide +kernel) rfl (wa_cons (we_name 1 rfl rfl (.inl rfl) (wa_nil (wc_lenT (wa_nil ((⟨cells, c, [], _, rfl, rfl, ok, rfl, hn, ⟨_, rfl, ?_, ?_⟩, fun k cells' c' ok' h1 h2 hp => ⟨rfl, (wx_T (atI_pick (hp _ rfl)) (?_))⟩⟩)))))))))))))))
    · omega
    · omega
    · exact q _ cells' c' ok' h1 h2 fun l' e => by
        have e' : items = l' := D.tup.inj (List.cons.inj e).1
        subst e'; exact List.get_mem _ _
abbrev v__law_columns : VSp := listV colsP
abbrev len__law_columns := len_colsP
abbrev im__law_columns := im_colsP
abbrev s__law_columns : Stmt := topS 14
theorem sc__law_columns : FnScope ["_law_letters", "_law_signs", "_law_found", "_law_one_here", "_law_other"] ["_law_letters"] (defScope s__law_columns) := ⟨rfl, rfl, rfl, by decide +kernel, rfl, by decide +kernel, by decide +kernel⟩
theorem ok__law_columns {f : Addr} {fd : FuncData} (F : Fun K "_law_columns" "_law_columns" s__law_columns f fd) (T : Txt K mg t_END t_LETTERS t_MAX_LETTERS) : FnG P w K mg base 1 f fd ["_law_letters"] (spOf K v__law_columns) := by
  obtain ⟨g_END, g_LETTERS, g_MAX_LETTERS, g_abs, g_bool, g_enumerate, g_int, g_isinstance, g_len, g_list, g_max, g_range, g_repr, g_tuple⟩ := T
  have sc := sc__law_columns
  refine vfnL F sc__law_columns len__law_columns im__law_columns (fun cdv A outer s H hr hgd B dl v h => ?_)
  have hu := hu_of hr
  obtain ⟨L, rfl, h1, h3, rfl⟩ := h
  have hsz : (sgn L).length ≤ 4 := by rw [sgn_len h3]; omega
  have hsg : cutS "abc" none (some (L : Int)) ++ "." = mkS (sgn L) := by rcases lcase h1 h3 with rfl | rfl | rfl <;> decide +kernel
  refine wss_cons (ws_par 1 2 rfl sc.nd rfl rfl (by decide) rfl rfl (we_bin (we_slice (we_str (we_name 0 rfl rfl (.inl rfl) (⟨_, rfl, wl_S (?_) (we_str (wo_addS (?_) (we_list (wa_nil ⟨show 0 ≤ sizeLine by decide, ?_⟩))))⟩))))))
  · decide
  · rcases lcase h1 h3 with rfl | rfl | rfl <;> decide +kernel
  rw [hsg]
  refine wss_cons (ws_for rfl PassesOwn.never (wi_str (we_name 1 rfl rfl (.inl rfl) (⟨_, rfl, ?_⟩))))
  refine ⟨fun i ds m => ∃ o1 o2 rest, ds = [some (.int L), some (dS (sgn L)), some (.obj 0), o1, o2] ∧ m = .lst ((((sgn L).take i).flatMap fun a => (sgn L).map fun b => [a, b]).map dS) :: rest, ⟨none, none, [], rfl, rfl⟩, fun _ _ _ _ => trivial, ?_, ?_⟩
  · rintro i d ds m hi ⟨o1, o2, rest, rfl, rfl⟩
    obtain ⟨a, ha, rfl⟩ := getE_str hi
    have hi4 : i < (sgn L).length := (List.getElem?_eq_some_iff.mp ha).1
    refine wg_name 3 sc.nd rfl (.inr rfl) (.inl rfl) (wss_one (ws_expr (we_bm PySem.F.plainAttrs_list PySem.F.slot_list_extend PySem.F.type_list_extend (we_name 2 rfl rfl (.inl rfl) (⟨(.inl ⟨rfl, _, (by first | rfl | exact VL.gL | assumption | exact VL.gA (by assumption) | exact VL.gA VL.gL | exact VL.gA (VL.gA (by assumption)) | exact VL.gM | exact VL.gA VL.gM | exact VL.gA (VL.gA VL.gL) | exact VL.gA (VL.gA (VL.gA VL.gL)) | exact VL.gD | exact VL.gA VL.gD | exact VL.gK (by assumption) | exact VL.gA (VL.gK (by assumption)) | exact VL.gA (VL.gA (VL.gK (by assumption))) | exact VL.gA (VL.gA (VL.gA (VL.gK (by assumption)))))⟩), wa_cons (we_lc rfl sc.nd (own := [("_law_other", 4)]) (blkOk_by rfl) (tg_name 4 sc.nd rfl rfl (by decide)) (wi_str (we_name 1 rfl rfl (.inl rfl) (⟨_, rfl, lc_mapE (sgn L) (fun c => dS [c]) (fun b => dS [a, b]) (mkS_items _) ?_ trivial (fun b hb => ⟨_, rfl, fun B s H C cl fp => we_bin (we_name 3 rfl rfl (.inr (.inl rfl)) (we_name 4 rfl rfl (.inl rfl) (wo_addS ?_ ((⟨congrArg D.str (mkS_app [a] [b]), rfl⟩)))))⟩) (wa_nil (wm_extend (by first | rfl | exact VL.gL | assumption | exact VL.gA (by assumption) | exact VL.gA VL.gL | exact VL.gA (VL.gA (by assumption)) | exact VL.gM | exact VL.gA VL.gM | exact VL.gA (VL.gA VL.gL) | exact VL.gA (VL.gA (VL.gA VL.gL)) | exact VL.gD | exact VL.gA VL.gD | exact VL.gK (by assumption) | exact VL.gA (VL.gK (by assumption)) | exact VL.gA (VL.gA (VL.gK (by assumption))) | exact VL.gA (VL.gA (VL.gA (VL.gK (by assumption))))) (by first | rfl | exact VL.gL | assumption | exact VL.gA (by assumption) | exact VL.gA VL.gL | exact VL.gA (VL.gA (by assumption)) | exact VL.gM | exact VL.gA VL.gM | exact VL.gA (VL.gA VL.gL) | exact VL.gA (VL.gA (VL.gA VL.gL)) | exact VL.gD | exact VL.gA VL.gD | exact VL.gK (by assumption) | exact VL.gA (VL.gK (by assumption)) | exact VL.gA (VL.gA (VL.gK (by assumption))) | exact VL.gA (VL.gA (VL.gA (VL.gK (by assumption))))) ?_ (?_)))⟩))))⟩)))))
    · exact Nat.le_trans hsz (by decide)
    · rw [mkS_len, mkS_len]; show 1 + 1 ≤ sizeLine; decide
    · refine Nat.le_trans (m := 16) ?_ (by decide)
      simp only [List.length_map, List.length_flatMap, List.map_const', List.sum_replicate_nat, List.length_take]
      have : min i (sgn L).length * (sgn L).length ≤ 3 * 4 := Nat.mul_le_mul (by omega) hsz
      omega
    · refine ⟨_, _, rest ++ [.lst ((sgn L).map fun b => dS [a, b])], rfl, ?_⟩
      rw [flatMap_take_succ _ ha, List.map_append, List.map_map]
      rfl
  · rintro ds m ⟨o1, o2, rest, rfl, rfl⟩
    refine wss_one (ws_ret (we_slice (we_name 2 rfl rfl (.inl rfl) (we_un (we_int (wu_neg (⟨_, rfl, wl_L (by first | rfl | exact VL.gL | assumption | exact VL.gA (by assumption) | exact VL.gA VL.gL | exact VL.gA (VL.gA (by assumption)) | exact VL.gM | exact VL.gA VL.gM | exact VL.gA (VL.gA VL.gL) | exact VL.gA (VL.gA (VL.gA VL.gL)) | exact VL.gD | exact VL.gA VL.gD | exact VL.gK (by assumption) | exact VL.gA (VL.gK (by assumption)) | exact VL.gA (VL.gA (VL.gK (by assumption))) | exact VL.gA (VL.gA (VL.gA (VL.gK (by assumption))))) (?_)⟩)))))))
    refine ⟨_, rfl, ?_⟩
    rw [cutD_eq, cutN_init, mkS_items, List.length_map, List.take_length, ← List.map_dropLast]
    exact gL
abbrev v__law_comp : VSp := compP
abbrev len__law_comp := @len_compP
abbrev s__law_comp : Stmt := topS 15
theorem sc__law_comp : FnScope ["_law_deck_here", "_law_letters", "_law_states", "_law_rows", "_law_state", "_law_column", "_law_verdicts"] ["_law_deck_here", "_law_letters", "_law_states"] (defScope s__law_comp) := ⟨rfl, rfl, rfl, by decide +kernel, rfl, by decide +kernel, by decide +kernel⟩
theorem ok__law_comp {f : Addr} {fd : FuncData} (F : Fun K "_law_comp" "_law_comp" s__law_comp f fd) (T : Txt K mg t_END t_LETTERS t_MAX_LETTERS) (D__law_draw : Dc P w K mg base 1 "_law_draw" ["_law_deck_here", "_law_most"] v__law_draw) (D__law_one : Dc P w K mg base 2 "_law_one" ["_law_deck_here", "_law_items"] v__law_one) (D__law_columns : Dc P w K mg base 1 "_law_columns" ["_law_letters"] v__law_columns) : FnG P w K mg base 3 f fd ["_law_deck_here", "_law_letters", "_law_states"] (spOf K v__law_comp) := by
  obtain ⟨g_END, g_LETTERS, g_MAX_LETTERS, g_abs, g_bool, g_enumerate, g_int, g_isinstance, g_len, g_list, g_max, g_range, g_repr, g_tuple⟩ := T
  have sc := sc__law_comp
  refine vfnW F sc__law_comp len__law_comp (fun cdv A outer s H hr hgd B cells c dl' ok hc h => ?_)
  have hu := hu_of hr
  have D__law_one_L := D__law_one.of (φ' := oneLV) fun _ _ _ h => .inl h
  have D__law_one_S := D__law_one.of (φ' := oneSV) fun _ _ _ h => .inr (.inl h)
  have D__law_one_T := D__law_one.of (φ' := oneTV) fun _ _ _ h => .inr (.inr h)
  obtain ⟨L, n, rfl, h1, h3, n1, n4⟩ := h
  have c0 := ok.cn
  have hcc : c + 7000 ≤ 1099511627776 := hc
  have hsq := sq15 h3
  have hcl : (colsN L).length ≤ 15 := by rw [cols_len h1 h3]; exact hsq
  refine wss_cons (ws_set 3 sc.nd rfl (.inl rfl) (.inl rfl) (we_list (wa_nil ⟨show 0 ≤ sizeLine by decide, wss_cons (ws_for rfl PassesOwn.never (wi_range1 g_range rfl (we_name 2 rfl rfl (.inr (.inl rfl)) (⟨_, rfl, ((by omega)), ((by omega)), ?_⟩))))⟩)))
  refine ⟨fun i ds m => ∃ (cells' : List Int) (c' : Int) (rs : List (List Nat)) (o1 o2 : Option D) (rest : List Ob), DkOk cells' c' ∧ c ≤ c' ∧ c' ≤ c + 15 * i ∧ rs.length = i ∧ (∀ r ∈ rs, r.length = (L + 1) * (L + 1) - 1 ∧ ∀ k ∈ r, k < n) ∧ ds = [some (.obj 1), some (.int L), some (.int n), some (.obj 2), o1, o2, none] ∧ m = dk cells' c' ++ (.lst (rs.map rowD) :: rest), ?_, fun _ _ _ _ => trivial, ?_, ?_⟩
  · exact ⟨cells, c, [], none, none, [], ok, Int.le_refl _, by omega, rfl, fun r h => absurd h List.not_mem_nil, rfl, rfl⟩
  · rintro i d ds m hi ⟨cells', c', rs, o1, o2, rest, ok', g1, g2, hrl, hrs, rfl, rfl⟩
    obtain ⟨hin, rfl⟩ := getE_range hi
    rw [Int.toNat_natCast] at hin
    refine wg_name 4 sc.nd rfl (.inl rfl) (.inl rfl) (wss_one (ws_expr (we_bm PySem.F.plainAttrs_list PySem.F.slot_list_append PySem.F.type_list_append (we_name 3 rfl rfl (.inl rfl) (⟨(.inl ⟨rfl, _, (by first | rfl | exact VL.gL | assumption | exact VL.gA (by assumption) | exact VL.gA VL.gL | exact VL.gA (VL.gA (by assumption)) | exact VL.gM | exact VL.gA VL.gM | exact VL.gA (VL.gA VL.gL) | exact VL.gA (VL.gA (VL.gA VL.gL)) | exact VL.gD | exact VL.gA VL.gD | exact VL.gK (by assumption) | exact VL.gA (VL.gK (by assumption)) | exact VL.gA (VL.gA (VL.gK (by assumption))) | exact VL.gA (VL.gA (VL.gA (VL.gK (by assumption)))))⟩), wa_cons (we_callTy g_tuple (by decide +kernel) rfl (wa_cons (we_lc rfl sc.nd (own := [("_law_column", 5)]) (blkOk_by rfl) (tg_name 5 sc.nd rfl rfl (by decide)) (wi_list (we_callL D__law_columns (hr.mono (by omega)) hgd rfl (wa_cons (we_name 1 rfl rfl (.inl rfl) (wa_nil ((⟨rfl, _, ⟨L, rfl, h1, h3, rfl⟩, im_dS _, (⟨_, _, rfl, (by first | rfl | exact VL.gL | assumption | exact VL.gA (by assumption) | exact VL.gA VL.gL | exact VL.gA (VL.gA (by assumption)) | exact VL.gM | exact VL.gA VL.gM | exact VL.gA (VL.gA VL.gL) | exact VL.gA (VL.gA (VL.gA VL.gL)) | exact VL.gD | exact VL.gA VL.gD | exact VL.gK (by assumption) | exact VL.gA (VL.gK (by assumption)) | exact VL.gA (VL.gA (VL.gK (by assumption))) | exact VL.gA (VL.gA (VL.gA (VL.gK (by assumption))))), lc_draw ((.lst (rs.map rowD) :: rest) ++ [.lst ((colsN L).map dS)]) (colsN L) dS D.int 1 (fun _ k => 0 ≤ k ∧ k < (n : Int)) rfl rfl ok' ?_ ?_ (fun _ _ => gD) (fun a ha => ⟨_, rfl, fun cells2 c2 ok2 g0 gn B s H C cl fp => we_callW D__law_draw (hr.mono (by omega)) hgd rfl (wa_cons (we_name 0 rfl rfl (.inr (.inl rfl)) (wa_cons (we_name 2 rfl rfl (.inr (.inl rfl)) (wa_nil ((⟨cells2, c2, _, _, rfl, rfl, ok2, rfl, ?_, ⟨_, rfl, ?_, ?_⟩, fun k cells3 c3 ok3 g1 g2 hp => ⟨rfl, ((⟨k, cells3, c3, rfl, ok3, g1, g2, hp _ rfl, rfl⟩))⟩⟩)))))))⟩) (fun bs cells2 c2 hl hP ok2 g3 g4 => (wa_nil (wc_tupleL (by first | rfl | exact VL.gL | assumption | exact VL.gA (by assumption) | exact VL.gA VL.gL | exact VL.gA (VL.gA (by assumption)) | exact VL.gM | exact VL.gA VL.gM | exact VL.gA (VL.gA VL.gL) | exact VL.gA (VL.gA (VL.gA VL.gL)) | exact VL.gD | exact VL.gA VL.gD | exact VL.gK (by assumption) | exact VL.gA (VL.gK (by assumption)) | exact VL.gA (VL.gA (VL.gK (by assumption))) | exact VL.gA (VL.gA (VL.gA (VL.gK (by assumption))))) (wa_nil (wm_append (by first | rfl | exact VL.gL | assumption | exact VL.gA (by assumption) | exact VL.gA VL.gL | exact VL.gA (VL.gA (by assumption)) | exact VL.gM | exact VL.gA VL.gM | exact VL.gA (VL.gA VL.gL) | exact VL.gA (VL.gA (VL.gA VL.gL)) | exact VL.gD | exact VL.gA VL.gD | exact VL.gK (by assumption) | exact VL.gA (VL.gK (by assumption)) | exact VL.gA (VL.gA (VL.gK (by assumption))) | exact VL.gA (VL.gA (VL.gA (VL.gK (by assumption))))) ?_ (?_))))))⟩)⟩))))))))))⟩)))))
    · show c' + (1 : Nat) * ((colsN L).length : Int) ≤ 1099511627776
      omega
    · exact Nat.le_trans hcl (by decide)
    · exact gn
    · omega
    · omega
    · rw [List.length_map, hrl]; exact Nat.lt_of_lt_of_le (by omega : i < 400) (by decide)
    · have hb := all_of hl hP
      refine ⟨cells2, c2, rs ++ [bs.map Int.toNat], _, _, rest ++ [.lst ((colsN L).map dS)] ++ [.lst (bs.map D.int)], ok2, by omega, by omega, by rw [List.length_append, hrl]; rfl, fun r hr => ?_, rfl, ?_⟩
      · rcases List.mem_append.mp hr with z | z
        · exact hrs r z
        · rw [List.mem_singleton.mp z]
          refine ⟨by rw [List.length_map, hl, cols_len h1 h3], fun k hk => ?_⟩
          obtain ⟨x, hx, rfl⟩ := List.mem_map.mp hk
          obtain ⟨_, _, z0, z1⟩ := hb x hx
          omega
      · rw [List.map_append]
        show _ = dk cells2 c2 ++ (Ob.lst (rs.map rowD ++ [.tup ((bs.map Int.toNat).map fun n => D.int (n : Nat))]) :: _)
        rw [toNat_map fun k hk => (hb k hk).choose_spec.2.1]
        rfl
  · rintro ds m ⟨cells', c', rs, o1, o2, rest, ok', g1, g2, hrl, hrs, rfl, rfl⟩
    rw [List.length_map, List.length_range, Int.toNat_natCast] at g2 hrl
    refine wss_cons (ws_set 6 sc.nd rfl (.inl rfl) (.inl rfl) (we_callTy g_tuple (by decide +kernel) rfl (wa_cons (we_lc rfl sc.nd (own := [("_law_state", 4)]) (blkOk_by rfl) (tg_name 4 sc.nd rfl rfl (by decide)) (wi_range1 g_range rfl (we_name 2 rfl rfl (.inr (.inl rfl)) (⟨_, rfl, ((by omega)), ((by omega)), lc_draw (.lst (rs.map rowD) :: rest) (List.range (n : Int).toNat) (fun i => D.int (i : Nat)) D.int 1 (fun _ k => -1 ≤ k ∧ k ≤ 1) rfl rfl ok' ?_ ?_ (fun _ _ => trivial) (fun a ha => ⟨_, rfl, fun cells2 c2 ok2 g0 gn B s H C cl fp => we_bin (we_callW D__law_draw (hr.mono (by omega)) hgd rfl (wa_cons (we_name 0 rfl rfl (.inr (.inl rfl)) (wa_cons (we_int (wa_nil ((⟨cells2, c2, _, _, rfl, rfl, ok2, rfl, ?_, ⟨_, rfl, ?_, ?_⟩, fun k cells3 c3 ok3 g1 g2 hp => ⟨rfl, (we_int (wo_subI ((⟨k - 1, cells3, c3, rfl, ok3, g1, g2, ?_, rfl⟩))))⟩⟩))))))))⟩) (fun bs cells2 c2 hl hP ok2 g3 g4 => (wa_nil (wc_tupleL (by first | rfl | exact VL.gL | assumption | exact VL.gA (by assumption) | exact VL.gA VL.gL | exact VL.gA (VL.gA (by assumption)) | exact VL.gM | exact VL.gA VL.gM | exact VL.gA (VL.gA VL.gL) | exact VL.gA (VL.gA (VL.gA VL.gL)) | exact VL.gD | exact VL.gA VL.gD | exact VL.gK (by assumption) | exact VL.gA (VL.gK (by assumption)) | exact VL.gA (VL.gA (VL.gK (by assumption))) | exact VL.gA (VL.gA (VL.gA (VL.gK (by assumption))))) (?_))))⟩)))))))
    · show c' + (1 : Nat) * ((List.range (n : Int).toNat).length : Int) ≤ 1099511627776
      rw [List.length_range, Int.toNat_natCast]; omega
    · rw [List.length_range, Int.toNat_natCast]; exact Nat.le_trans n4 (by decide)
    · exact gn
    · decide
    · decide
    · have := hp _ rfl; omega
    · have hb := all_of hl hP
      rw [List.length_range, Int.toNat_natCast] at hl g4
      obtain ⟨v0, bs', rfl⟩ : ∃ v0 bs', bs = v0 :: bs' := by
        cases bs with
        | nil => simp at hl; omega
        | cons v r => exact ⟨v, r, rfl⟩
      refine wss_one (ws_ret (we_tup (wa_cons (we_name 1 rfl rfl (.inl rfl) (wa_cons (we_callTy g_tuple (by decide +kernel) rfl (wa_cons (we_name 3 rfl rfl (.inl rfl) (wa_nil (wc_tupleL (by first | rfl | exact VL.gL | assumption | exact VL.gA (by assumption) | exact VL.gA VL.gL | exact VL.gA (VL.gA (by assumption)) | exact VL.gM | exact VL.gA VL.gM | exact VL.gA (VL.gA VL.gL) | exact VL.gA (VL.gA (VL.gA VL.gL)) | exact VL.gD | exact VL.gA VL.gD | exact VL.gK (by assumption) | exact VL.gA (VL.gK (by assumption)) | exact VL.gA (VL.gA (VL.gK (by assumption))) | exact VL.gA (VL.gA (VL.gA (VL.gK (by assumption))))) (wa_cons (we_bin (we_tup (wa_cons (we_oneL D__law_one_L (hr.mono (by omega)) hgd rfl (wa_cons (we_name 0 rfl rfl (.inr (.inl rfl)) (wa_cons (we_list (wa_cons (we_int (wa_cons (we_ix (we_name 6 rfl rfl (.inl rfl) (we_int (wx_T ((atI_nat (j := 0) rfl)) (wa_nil ⟨show 2 ≤ sizeLine by decide, wa_nil ((⟨cells2, c2, _, _, [0, v0], D.int, rfl, rfl, ok2, gL, ?_, rfl, ?_, by simp, show 2 ≤ 1000000 by decide, fun a cells3 c3 ok3 g5 g6 ha => (wa_nil ⟨show 1 ≤ sizeLine by decide, we_slice (we_name 6 rfl rfl (.inl rfl) (we_int (⟨_, rfl, wl_T (wo_addT ?_ (wa_nil ⟨show 3 ≤ sizeLine by decide, ?_⟩))⟩)))⟩)⟩))⟩)))))))))))))))))))))))))))
      · simp [dk]
      · show c2 + 1 ≤ 1099511627776
        omega
      · rw [cutD_eq, show (some (1 : Int)) = some ((1 : Nat) : Int) from rfl, cutN_from, List.length_drop, List.length_map, hl]
        exact Nat.le_trans (by show 1 + (n - 1) ≤ 400; omega) (by decide)
      · have ev : [D.int a] ++ cutD ((v0 :: bs').map D.int) (some 1) none = (a :: bs').map D.int := by
          rw [cutD_eq, show (some (1 : Int)) = some ((1 : Nat) : Int) from rfl, cutN_from]; rfl
        rw [ev]
        refine ⟨⟨L, rs, a :: bs'⟩, cells3, c3, _, rfl, Cmp.im _, ok3, by omega, by omega, ⟨mk_cmp h1 h3 n1 n4 hrl hrs hl fun v hv => ?_, fun L' n' e => ?_⟩, rfl⟩
        · rcases List.mem_cons.mp hv with rfl | hv
          · rcases List.mem_cons.mp ha with rfl | ha
            · omega
            · obtain ⟨_, _, z⟩ := hb v0 List.mem_cons_self
              rw [List.mem_singleton.mp ha]; exact z
          · obtain ⟨_, _, z⟩ := hb v (List.mem_cons_of_mem _ hv); exact z
        · obtain ⟨e1, e2⟩ := List.cons.inj e
          have e3 := D.int.inj e1
          have e4 := D.int.inj (List.cons.inj e2).1
          exact ⟨by show L = L'; omega, by show rs.length = n'; omega⟩
abbrev v__law_whole : VSp := pureV isIntP
abbrev len__law_whole := @len_isIntP
abbrev im__law_whole := @im_isIntP
abbrev s__law_whole : Stmt := topS 20
theorem sc__law_whole : FnScope ["_law_value", "_law_least", "_law_most"] ["_law_value", "_law_least", "_law_most"] (defScope s__law_whole) := ⟨rfl, rfl, rfl, by decide +kernel, rfl, by decide +kernel, by decide +kernel⟩
theorem ok__law_whole {f : Addr} {fd : FuncData} (F : Fun K "_law_whole" "_law_whole" s__law_whole f fd) (T : Txt K mg t_END t_LETTERS t_MAX_LETTERS) : FnG P w K mg base 1 f fd ["_law_value", "_law_least", "_law_most"] (spOf K v__law_whole) := by
  obtain ⟨g_END, g_LETTERS, g_MAX_LETTERS, g_abs, g_bool, g_enumerate, g_int, g_isinstance, g_len, g_list, g_max, g_range, g_repr, g_tuple⟩ := T
  have sc := sc__law_whole
  refine vfnP F sc__law_whole len__law_whole im__law_whole (fun cdv A outer s H hr hgd B dl v h => ?_)
  have hu := hu_of hr
  obtain ⟨d, lo, hi, hv, rfl, rfl⟩ := h
  have hk0 := val_tyK hv
  cases d with
  | int i =>
    refine wss_one (ws_ret (we_and2 (we_callB g_isinstance (by decide +kernel) rfl (wa_cons (we_name 0 rfl rfl (.inl rfl) (wa_cons (we_ty g_int rfl (by decide +kernel) (wa_nil (wc_isiI (by first | rfl | assumption) (⟨_, rfl, fun hk => we_and2 (we_not (we_callB g_isinstance (by decide +kernel) rfl (wa_cons (we_name 0 rfl rfl (.inl rfl) (wa_cons (we_ty g_bool rfl (by decide +kernel) (wa_nil (wc_isiB (by first | rfl | assumption) (⟨_, rfl, ⟨_, rfl, fun hk => we_and1 (we_chain (we_name 1 rfl rfl (.inl rfl) (we_name 0 rfl rfl (.inl rfl) (wo_leI (⟨_, rfl, fun hk => we_name 2 rfl rfl (.inl rfl) (wo_leI (?_)), fun hk => ?_⟩))))), fun hk => ?_⟩⟩))))))))), fun hk => ?_⟩))))))))))
    all_goals first
      | rfl
      | (cases hk; done)
      | (show D.bl false = D.bl (decide _ && decide _); rw [hk]; rfl)
      | (show D.bl (decide _) = D.bl (decide _ && decide _); rw [hk]; rfl)
  | bl b =>
    refine wss_one (ws_ret (we_and2 (we_callB g_isinstance (by decide +kernel) rfl (wa_cons (we_name 0 rfl rfl (.inl rfl) (wa_cons (we_ty g_int rfl (by decide +kernel) (wa_nil (wc_isiI (by first | rfl | assumption) (⟨_, rfl, fun hk => we_and2 (we_not (we_callB g_isinstance (by decide +kernel) rfl (wa_cons (we_name 0 rfl rfl (.inl rfl) (wa_cons (we_ty g_bool rfl (by decide +kernel) (wa_nil (wc_isiB (by first | rfl | assumption) (⟨_, rfl, ⟨_, rfl, fun hk => False.elim ?_, fun hk => ?_⟩⟩))))))))), fun hk => ?_⟩))))))))))
    all_goals first | rfl | (cases hk; done)
  | _ =>
    refine wss_one (ws_ret (we_and2 (we_callB g_isinstance (by decide +kernel) rfl (wa_cons (we_name 0 rfl rfl (.inl rfl) (wa_cons (we_ty g_int rfl (by decide +kernel) (wa_nil (wc_isiI (by first | rfl | assumption) (⟨_, rfl, fun hk => False.elim ?_, fun hk => ?_⟩))))))))))
    all_goals first | rfl | (cases hk; done)
abbrev v__law_due : VSp := pureV errP
abbrev len__law_due := @errP_len
abbrev im__law_due := @errP_im
abbrev s__law_due : Stmt := topS 21
theorem sc__law_due : FnScope ["_law_value", "_law_wide", "_law_states", "_law_k", "_law_row", "_law_one_here"] ["_law_value"] (defScope s__law_due) := ⟨rfl, rfl, rfl, by decide +kernel, rfl, by decide +kernel, by decide +kernel⟩
theorem ok__law_due {f : Addr} {fd : FuncData} (F : Fun K "_law_due" "_law_due" s__law_due f fd) (T : Txt K mg t_END t_LETTERS t_MAX_LETTERS) (D__law_whole : Dc P w K mg base 1 "_law_whole" ["_law_value", "_law_least", "_law_most"] v__law_whole) (D__law_columns : Dc P w K mg base 1 "_law_columns" ["_law_letters"] v__law_columns) : FnG P w K mg base 2 f fd ["_law_value"] (spOf K v__law_due) := by
  obtain ⟨g_END, g_LETTERS, g_MAX_LETTERS, g_abs, g_bool, g_enumerate, g_int, g_isinstance, g_len, g_list, g_max, g_range, g_repr, g_tuple⟩ := T
  have sc := sc__law_due
  refine vfnP F sc__law_due len__law_due im__law_due (fun cdv A outer s H hr hgd B dl v h => ?_)
  have hu := hu_of hr
  obtain ⟨d, hv, rfl, rfl⟩ := h
  have hk0 := val_tyK hv
  by_cases ht : ∃ l r m, d = .tup [l, r, m]
  · obtain ⟨l, r, m0, rfl⟩ := ht
    have hvs := val_tup hv
    have vl : l.val = true := hvs l (by simp)
    have vr : r.val = true := hvs r (by simp)
    have vm : m0.val = true := hvs m0 (by simp)
    have kl := val_tyK vl
    have kr := val_tyK vr
    have km := val_tyK vm
    cases h1 : intInD 1 3 l with
    | false =>
      refine wss_cons (ws_if (wt_w (wt_or2 (wt_not (wt_val (we_callB g_isinstance (by decide +kernel) rfl (wa_cons (we_name 0 rfl rfl (.inl rfl) (wa_cons (we_ty g_tuple rfl (by decide +kernel) (wa_nil (wc_isiT (by first | rfl | assumption) (⟨_, rfl, ⟨fun hk => wt_or1 (wt_cmp (we_callB g_len (by decide +kernel) rfl (wa_cons (we_name 0 rfl rfl (.inl rfl) (wa_nil (wc_lenT (we_int (wo_neI (⟨_, rfl, ⟨fun hk1 => False.elim ?_, fun hk1 => wss_nil (wss_cons (ws_if (wt_not (wt_val (we_callP D__law_whole (hr.mono (by omega)) hgd rfl (wa_cons (we_ix (we_name 0 rfl rfl (.inl rfl) (we_int (wx_T (by rfl) (wa_cons (we_int (wa_cons (we_int (wa_nil ((⟨im_iI vl, _, ⟨l, _, _, vl, rfl, rfl⟩, rfl, (⟨_, rfl, ⟨fun hk2 => wss_one (ws_ret (we_tup (wa_cons (we_non (wa_cons (we_str (wa_nil ⟨show 2 ≤ sizeLine by decide, ?_⟩))))))), fun hk2 => False.elim ?_⟩⟩)⟩)))))))))))))))))⟩⟩))))))))), fun hk => False.elim ?_⟩⟩)))))))))))))
      all_goals first
        | rfl
        | (cases hk; done)
        | (cases hk1; done)
        | (cases hk2; done)
        | (cases hk3; done)
        | (cases hk4; done)
        | (simp at hk; done)
        | (simp at hk1; done)
        | (simp at hk2; done)
        | (simp at hk3; done)
        | (simp at hk4; done)
        | skip
      all_goals try dsimp only
      · exact (err_letters h1).symm
      · rw [h1] at hk2; cases hk2
    | true =>
      obtain ⟨i, rfl⟩ : ∃ i, l = .int i := by
        cases l <;> first | exact ⟨_, rfl⟩ | cases h1
      have hi : 1 ≤ i ∧ i ≤ 3 := by simpa [intInD] using h1
      obtain ⟨L, rfl⟩ : ∃ L : Nat, i = (L : Int) := ⟨i.toNat, by omega⟩
      have l1 : 1 ≤ L := by omega
      have l3 : L ≤ 3 := by omega
      by_cases hr' : ∃ rs, r = .tup rs ∧ rs ≠ []
      · obtain ⟨rs, rfl, hne⟩ := hr'
        have vrs := val_tup vr
        have hpos : 0 < rs.length := List.length_pos_iff.mpr hne
        refine wss_cons (ws_if (wt_w (wt_or2 (wt_not (wt_val (we_callB g_isinstance (by decide +kernel) rfl (wa_cons (we_name 0 rfl rfl (.inl rfl) (wa_cons (we_ty g_tuple rfl (by decide +kernel) (wa_nil (wc_isiT (by first | rfl | assumption) (⟨_, rfl, ⟨fun hk => wt_or1 (wt_cmp (we_callB g_len (by decide +kernel) rfl (wa_cons (we_name 0 rfl rfl (.inl rfl) (wa_nil (wc_lenTZ (fun hz => we_int (wo_neI (⟨_, rfl, ⟨fun hk1 => False.elim ?_, fun hk1 => wss_nil (wss_cons (ws_if (wt_not (wt_val (we_callP D__law_whole (hr.mono (by omega)) hgd rfl (wa_cons (we_ix (we_name 0 rfl rfl (.inl rfl) (we_int (wx_T (by rfl) (wa_cons (we_int (wa_cons (we_int (wa_nil ((⟨im_iI vl, _, ⟨.int L, _, _, vl, rfl, rfl⟩, rfl, (⟨_, rfl, ⟨fun hk2 => False.elim ?_, fun hk2 => wss_nil (wss_cons (ws_if (wt_w (wt_or2 (wt_not (wt_val (we_callB g_isinstance (by decide +kernel) rfl (wa_cons (we_ix (we_name 0 rfl rfl (.inl rfl) (we_int (wx_T (by rfl) (wa_cons (we_ty g_tuple rfl (by decide +kernel) (wa_nil (wc_isiT (by first | rfl | assumption) (⟨_, rfl, ⟨fun hk => wt_or1 (wt_cmp (we_callB g_len (by decide +kernel) rfl (wa_cons (we_ix (we_name 0 rfl rfl (.inl rfl) (we_int (wx_T (by rfl) (wa_nil (wc_lenTZ (fun hz => we_int (wo_eqI (⟨_, rfl, ⟨fun hk3 => False.elim ?_, fun hk3 => wss_nil (wss_cons (ws_asg (we_tup (wa_cons (we_callB g_len (by decide +kernel) rfl (wa_cons (we_callL D__law_columns (hr.mono (by omega)) hgd rfl (wa_cons (we_ix (we_name 0 rfl rfl (.inl rfl) (we_int (wx_T (by rfl) (wa_nil ((⟨rfl, _, ⟨L, rfl, l1, l3, rfl⟩, im_dS _, (wa_nil (wc_lenL (by first | rfl | exact VL.gL | assumption | exact VL.gA (by assumption) | exact VL.gA VL.gL | exact VL.gA (VL.gA (by assumption)) | exact VL.gM | exact VL.gA VL.gM | exact VL.gA (VL.gA VL.gL) | exact VL.gA (VL.gA (VL.gA VL.gL)) | exact VL.gD | exact VL.gA VL.gD | exact VL.gK (by assumption) | exact VL.gA (VL.gK (by assumption)) | exact VL.gA (VL.gA (VL.gK (by assumption))) | exact VL.gA (VL.gA (VL.gA (VL.gK (by assumption))))) (wa_cons (we_callB g_len (by decide +kernel) rfl (wa_cons (we_ix (we_name 0 rfl rfl (.inl rfl) (we_int (wx_T (by rfl) (wa_nil (wc_lenTZ (fun hz => wa_nil ⟨show 2 ≤ sizeLine by decide, wg_tup rfl rfl (by rfl) (wg_name 1 sc.nd rfl (.inl rfl) (.inl rfl) (wg_name 2 sc.nd rfl (.inr rfl) (.inl rfl) (wss_cons (ws_for rfl PassesOwn.never (wi_range1 g_range rfl (we_name 2 rfl rfl (.inr (.inl rfl)) (⟨_, rfl, ((line62 hz).1), ((line62 hz).2), ?_⟩)))))))⟩))))))))))))⟩)))))))))))))))⟩⟩)))))))))))), fun hk => False.elim ?_⟩⟩)))))))))))))))))⟩⟩)⟩)))))))))))))))))⟩⟩))))))))), fun hk => False.elim ?_⟩⟩)))))))))))))
        all_goals first
          | rfl
          | (cases hk; done)
          | (cases hk1; done)
          | (cases hk2; done)
          | (cases hk3; done)
          | (cases hk4; done)
          | (simp at hk; done)
          | (simp at hk1; done)
          | (simp at hk2; done)
          | (simp at hk3; done)
          | (simp at hk4; done)
          | skip
        all_goals try dsimp only
        · rw [h1] at hk2; cases hk2
        · simp at hk3; exact hne hk3
        refine ⟨fun i ds m => ∃ o1 o2 o3 rest, ds = [some (.tup [.int L, .tup rs, m0]), some (.int (wideN L : Nat)), some (.int rs.length), o1, o2, o3] ∧ m = rest ∧ ∀ j x, j < i → rs[j]? = some x → isRowD L rs.length x = true, ⟨none, none, none, _, by rw [List.length_map]; rfl, rfl, fun _ _ h => absurd h (Nat.not_lt_zero _)⟩, fun _ _ _ _ => trivial, ?_, ?_⟩
        · rintro i d ds m hi' ⟨o1, o2, o3, rest, rfl, rfl, hp⟩
          obtain ⟨hin, rfl⟩ := getE_range hi'
          rw [Int.toNat_natCast] at hin
          obtain ⟨x, hx⟩ : ∃ x, rs[i]? = some x := ⟨rs[i], List.getElem?_eq_getElem hin⟩
          have vx := vrs x (List.mem_of_getElem? hx)
          have kx := val_tyK vx
          have ix1 : atI rs (i : Int) = some x := atI_nat hx
          cases x with
          | tup xs =>
            have vxs := val_tup vx
            refine wg_name 3 sc.nd rfl (.inl rfl) (.inl rfl) (wss_cons (ws_set 4 sc.nd rfl (.inl rfl) (.inl rfl) (we_ix (we_ix (we_name 0 rfl rfl (.inl rfl) (we_int (wx_T ((by rfl)) (we_name 3 rfl rfl (.inl rfl) (wx_T (ix1) (wss_cons (ws_if (wt_w (wt_or2 (wt_not (wt_val (we_callB g_isinstance (by decide +kernel) rfl (wa_cons (we_name 4 rfl rfl (.inl rfl) (wa_cons (we_ty g_tuple rfl (by decide +kernel) (wa_nil (wc_isiT (by first | rfl | assumption) (⟨_, rfl, ⟨fun hk => wt_or1 (wt_cmp (we_callB g_len (by decide +kernel) rfl (wa_cons (we_name 4 rfl rfl (.inl rfl) (wa_nil (wc_lenT (we_name 1 rfl rfl (.inl rfl) (wo_neI (⟨_, rfl, ⟨fun hk1 => wss_one (ws_ret (we_tup (wa_cons (we_name 3 rfl rfl (.inl rfl) (wa_cons (we_str (wa_nil ⟨show 2 ≤ sizeLine by decide, ?_⟩))))))), fun hk1 => wss_nil (wss_one (ws_if (wt_cmp (we_lc rfl sc.nd (own := [("_law_one_here", 5)]) (blkOk_by rfl) (tg_name 5 sc.nd rfl rfl (by decide)) (wi_tupZ (we_name 4 rfl rfl (.inl rfl) (⟨_, rfl, fun hsz => lc_filtE xs (fun d => d) (fun d => !intInD 0 ((rs.length : Int) - 1) d) (fun d => d) (List.map_id' ..).symm hsz trivial (fun a ha => ⟨_, rfl, fun B s H C cl fp => wt_not (wt_val (we_callP D__law_whole (hr.mono (by omega)) hgd rfl (wa_cons (we_name 5 rfl rfl (.inl rfl) (wa_cons (we_int (wa_cons (we_bin (we_name 2 rfl rfl (.inr (.inl rfl)) (we_int (wo_subI (wa_nil ((⟨im_iI (vxs a ha), _, ⟨a, _, _, vxs a ha, rfl, rfl⟩, rfl, (⟨_, rfl, ⟨rfl, rfl, fun hp s H C cl fp => we_name 5 rfl rfl (.inl rfl) (⟨rfl, rfl⟩)⟩⟩)⟩))))))))))))))⟩) (we_list (wa_nil ⟨show 0 ≤ sizeLine by decide, wo_neL0 (Nat.lt_of_succ_lt hu) (by first | rfl | exact VL.gL | assumption | exact VL.gA (by assumption) | exact VL.gA VL.gL | exact VL.gA (VL.gA (by assumption)) | exact VL.gM | exact VL.gA VL.gM | exact VL.gA (VL.gA VL.gL) | exact VL.gA (VL.gA (VL.gA VL.gL)) | exact VL.gD | exact VL.gA VL.gD | exact VL.gK (by assumption) | exact VL.gA (VL.gK (by assumption)) | exact VL.gA (VL.gA (VL.gK (by assumption))) | exact VL.gA (VL.gA (VL.gA (VL.gK (by assumption))))) (by first | rfl | exact VL.gL | assumption | exact VL.gA (by assumption) | exact VL.gA VL.gL | exact VL.gA (VL.gA (by assumption)) | exact VL.gM | exact VL.gA VL.gM | exact VL.gA (VL.gA VL.gL) | exact VL.gA (VL.gA (VL.gA VL.gL)) | exact VL.gD | exact VL.gA VL.gD | exact VL.gK (by assumption) | exact VL.gA (VL.gK (by assumption)) | exact VL.gA (VL.gA (VL.gK (by assumption))) | exact VL.gA (VL.gA (VL.gA (VL.gK (by assumption))))) (⟨_, rfl, ⟨fun hk2 => wss_one (ws_ret (we_tup (wa_cons (we_name 3 rfl rfl (.inl rfl) (wa_cons (we_str (wa_nil ⟨show 2 ≤ sizeLine by decide, ?_⟩))))))), fun hk2 => wss_nil (?_)⟩⟩)⟩))⟩)))))))⟩⟩))))))))), fun hk => ⟨fun hk1 => wss_one (ws_ret (we_tup (wa_cons (we_name 3 rfl rfl (.inl rfl) (wa_cons (we_str (wa_nil ⟨show 2 ≤ sizeLine by decide, ?_⟩))))))), fun hk1 => wss_nil (wss_one (ws_if (wt_cmp (we_lc rfl sc.nd (own := [("_law_one_here", 5)]) (blkOk_by rfl) (tg_name 5 sc.nd rfl rfl (by decide)) (wi_tupZ (we_name 4 rfl rfl (.inl rfl) (⟨_, rfl, fun hsz => lc_filtE xs (fun d => d) (fun d => !intInD 0 ((rs.length : Int) - 1) d) (fun d => d) (List.map_id' ..).symm hsz trivial (fun a ha => ⟨_, rfl, fun B s H C cl fp => wt_not (wt_val (we_callP D__law_whole (hr.mono (by omega)) hgd rfl (wa_cons (we_name 5 rfl rfl (.inl rfl) (wa_cons (we_int (wa_cons (we_bin (we_name 2 rfl rfl (.inr (.inl rfl)) (we_int (wo_subI (wa_nil ((⟨im_iI (vxs a ha), _, ⟨a, _, _, vxs a ha, rfl, rfl⟩, rfl, (⟨_, rfl, ⟨rfl, rfl, fun hp s H C cl fp => we_name 5 rfl rfl (.inl rfl) (⟨rfl, rfl⟩)⟩⟩)⟩))))))))))))))⟩) (we_list (wa_nil ⟨show 0 ≤ sizeLine by decide, wo_neL0 (Nat.lt_of_succ_lt hu) (by first | rfl | exact VL.gL | assumption | exact VL.gA (by assumption) | exact VL.gA VL.gL | exact VL.gA (VL.gA (by assumption)) | exact VL.gM | exact VL.gA VL.gM | exact VL.gA (VL.gA VL.gL) | exact VL.gA (VL.gA (VL.gA VL.gL)) | exact VL.gD | exact VL.gA VL.gD | exact VL.gK (by assumption) | exact VL.gA (VL.gK (by assumption)) | exact VL.gA (VL.gA (VL.gK (by assumption))) | exact VL.gA (VL.gA (VL.gA (VL.gK (by assumption))))) (by first | rfl | exact VL.gL | assumption | exact VL.gA (by assumption) | exact VL.gA VL.gL | exact VL.gA (VL.gA (by assumption)) | exact VL.gM | exact VL.gA VL.gM | exact VL.gA (VL.gA VL.gL) | exact VL.gA (VL.gA (VL.gA VL.gL)) | exact VL.gD | exact VL.gA VL.gD | exact VL.gK (by assumption) | exact VL.gA (VL.gK (by assumption)) | exact VL.gA (VL.gA (VL.gK (by assumption))) | exact VL.gA (VL.gA (VL.gA (VL.gK (by assumption))))) (⟨_, rfl, ⟨fun hk2 => wss_one (ws_ret (we_tup (wa_cons (we_name 3 rfl rfl (.inl rfl) (wa_cons (we_str (wa_nil ⟨show 2 ≤ sizeLine by decide, ?_⟩))))))), fun hk2 => wss_nil (?_)⟩⟩)⟩))⟩)))))))⟩⟩⟩)))))))))))))))))))))))
            all_goals first
              | rfl
              | (cases hk; done)
              | (cases hk1; done)
              | (cases hk2; done)
              | (cases hk3; done)
              | (cases hk4; done)
              | (simp at hk; done)
              | (simp at hk1; done)
              | (simp at hk2; done)
              | (simp at hk3; done)
              | (simp at hk4; done)
              | skip
            all_goals try dsimp only
            · have hb : isRowD L rs.length (.tup xs) = false := by
                have : ¬ xs.length = wideN L := fun e => by rw [e] at hk1; simp at hk1
                show (decide (xs.length = wideN L) && _) = false
                rw [decide_eq_false this]; rfl
              rw [err_in h1 hne, errR_row hx hb hp]; rfl
            · have hb : isRowD L rs.length (.tup xs) = false := by
                show (_ && List.isEmpty _) = false
                rw [List.map_id'] at hk2
                have e : (xs.filter fun d => !intInD 0 ((rs.length : Int) - 1) d).isEmpty = false := by
                  cases q : (xs.filter fun d => !intInD 0 ((rs.length : Int) - 1) d).isEmpty with
                  | false => rfl
                  | true => rw [q] at hk2; cases hk2
                rw [e, Bool.and_false]
              rw [err_in h1 hne, errR_row hx hb hp]; rfl
            · have hb : isRowD L rs.length (.tup xs) = true := by
                show (decide (xs.length = wideN L) && List.isEmpty _) = true
                have e1 : xs.length = wideN L := by
                  have : (xs.length : Int) = wideN L := by simpa using hk1
                  omega
                rw [List.map_id'] at hk2
                rw [decide_eq_true e1, Bool.true_and]
                cases q : (xs.filter fun d => !intInD 0 ((rs.length : Int) - 1) d).isEmpty with
                | true => rfl
                | false => rw [q] at hk2; cases hk2
              refine ⟨_, _, _, _, rfl, rfl, fun j y hj hy => ?_⟩
              by_cases e : j = i
              · subst e; rw [hx] at hy; cases hy; exact hb
              · exact hp j y (by omega) hy
          | _ =>
            have hp' := errR_row (m := m0) hx rfl hp
            refine wg_name 3 sc.nd rfl (.inl rfl) (.inl rfl) (wss_cons (ws_set 4 sc.nd rfl (.inl rfl) (.inl rfl) (we_ix (we_ix (we_name 0 rfl rfl (.inl rfl) (we_int (wx_T ((by rfl)) (we_name 3 rfl rfl (.inl rfl) (wx_T (ix1) (wss_cons (ws_if (wt_w (wt_or2 (wt_not (wt_val (we_callB g_isinstance (by decide +kernel) rfl (wa_cons (we_name 4 rfl rfl (.inl rfl) (wa_cons (we_ty g_tuple rfl (by decide +kernel) (wa_nil (wc_isiT (by first | rfl | assumption) (⟨_, rfl, ⟨fun hk => False.elim ?_, fun hk => ⟨fun hk1 => wss_one (ws_ret (we_tup (wa_cons (we_name 3 rfl rfl (.inl rfl) (wa_cons (we_str (wa_nil ⟨show 2 ≤ sizeLine by decide, ?_⟩))))))), fun hk1 => False.elim ?_⟩⟩⟩)))))))))))))))))))))))
            all_goals first
              | rfl
              | (cases hk; done)
              | (cases hk1; done)
              | (cases hk2; done)
              | (cases hk3; done)
              | (cases hk4; done)
              | (simp at hk; done)
              | (simp at hk1; done)
              | (simp at hk2; done)
              | (simp at hk3; done)
              | (simp at hk4; done)
              | skip
            all_goals try dsimp only
            all_goals (rw [err_in h1 hne, hp']; rfl)
        · rintro ds m ⟨o1, o2, o3, rest, rfl, rfl, hp⟩
          have hall : ∀ x ∈ rs, isRowD L rs.length x = true := fun x hx => by
            obtain ⟨j, hj, e⟩ := List.getElem_of_mem hx
            exact hp j x (by rw [List.length_map, List.length_range, Int.toNat_natCast]; exact hj) (by rw [List.getElem?_eq_getElem hj, e])
          rw [err_in h1 hne, errR_none hall]
          cases m0 with
          | tup xs =>
            have vxs := val_tup vm
            refine wss_cons (ws_if (wt_w (wt_or2 (wt_not (wt_val (we_callB g_isinstance (by decide +kernel) rfl (wa_cons (we_ix (we_name 0 rfl rfl (.inl rfl) (we_int (wx_T (by rfl) (wa_cons (we_ty g_tuple rfl (by decide +kernel) (wa_nil (wc_isiT (by first | rfl | assumption) (⟨_, rfl, ⟨fun hk => wt_or1 (wt_cmp (we_callB g_len (by decide +kernel) rfl (wa_cons (we_ix (we_name 0 rfl rfl (.inl rfl) (we_int (wx_T (by rfl) (wa_nil (wc_lenT (we_name 2 rfl rfl (.inr (.inl rfl)) (wo_neI (⟨_, rfl, ⟨fun hk1 => wss_one (ws_ret (we_tup (wa_cons (we_non (wa_cons (we_str (wa_nil ⟨show 2 ≤ sizeLine by decide, ?_⟩))))))), fun hk1 => wss_nil (wss_one (ws_ret (we_ifExp (wt_cmp (we_lc rfl sc.nd (own := [("_law_one_here", 5)]) (blkOk_by rfl) (tg_name 5 sc.nd rfl rfl (by decide)) (wi_tupZ (we_ix (we_name 0 rfl rfl (.inl rfl) (we_int (wx_T (by rfl) (⟨_, rfl, fun hsz => lc_filtE xs (fun d => d) (fun d => !intInD (-1) 1 d) (fun d => d) (List.map_id' ..).symm hsz trivial (fun a ha => ⟨_, rfl, fun B s H C cl fp => wt_not (wt_val (we_callP D__law_whole (hr.mono (by omega)) hgd rfl (wa_cons (we_name 5 rfl rfl (.inl rfl) (wa_cons (we_un (we_int (wu_neg (wa_cons (we_int (wa_nil ((⟨im_iI (vxs a ha), _, ⟨a, _, _, vxs a ha, rfl, rfl⟩, rfl, (⟨_, rfl, ⟨rfl, rfl, fun hp s H C cl fp => we_name 5 rfl rfl (.inl rfl) (⟨rfl, rfl⟩)⟩⟩)⟩)))))))))))))⟩) (we_list (wa_nil ⟨show 0 ≤ sizeLine by decide, wo_eqL0 (Nat.lt_of_succ_lt hu) (by first | rfl | exact VL.gL | assumption | exact VL.gA (by assumption) | exact VL.gA VL.gL | exact VL.gA (VL.gA (by assumption)) | exact VL.gM | exact VL.gA VL.gM | exact VL.gA (VL.gA VL.gL) | exact VL.gA (VL.gA (VL.gA VL.gL)) | exact VL.gD | exact VL.gA VL.gD | exact VL.gK (by assumption) | exact VL.gA (VL.gK (by assumption)) | exact VL.gA (VL.gA (VL.gK (by assumption))) | exact VL.gA (VL.gA (VL.gA (VL.gK (by assumption))))) (by first | rfl | exact VL.gL | assumption | exact VL.gA (by assumption) | exact VL.gA VL.gL | exact VL.gA (VL.gA (by assumption)) | exact VL.gM | exact VL.gA VL.gM | exact VL.gA (VL.gA VL.gL) | exact VL.gA (VL.gA (VL.gA VL.gL)) | exact VL.gD | exact VL.gA VL.gD | exact VL.gK (by assumption) | exact VL.gA (VL.gK (by assumption)) | exact VL.gA (VL.gA (VL.gK (by assumption))) | exact VL.gA (VL.gA (VL.gA (VL.gK (by assumption))))) (⟨_, rfl, ⟨fun hk => we_non (?_), fun hk => we_tup (wa_cons (we_non (wa_cons (we_str (wa_nil ⟨show 2 ≤ sizeLine by decide, ?_⟩)))))⟩⟩)⟩))⟩)))))))))))⟩⟩)))))))))))), fun hk => ⟨fun hk1 => wss_one (ws_ret (we_tup (wa_cons (we_non (wa_cons (we_str (wa_nil ⟨show 2 ≤ sizeLine by decide, ?_⟩))))))), fun hk1 => wss_nil (wss_one (ws_ret (we_ifExp (wt_cmp (we_lc rfl sc.nd (own := [("_law_one_here", 5)]) (blkOk_by rfl) (tg_name 5 sc.nd rfl rfl (by decide)) (wi_tupZ (we_ix (we_name 0 rfl rfl (.inl rfl) (we_int (wx_T (by rfl) (⟨_, rfl, fun hsz => lc_filtE xs (fun d => d) (fun d => !intInD (-1) 1 d) (fun d => d) (List.map_id' ..).symm hsz trivial (fun a ha => ⟨_, rfl, fun B s H C cl fp => wt_not (wt_val (we_callP D__law_whole (hr.mono (by omega)) hgd rfl (wa_cons (we_name 5 rfl rfl (.inl rfl) (wa_cons (we_un (we_int (wu_neg (wa_cons (we_int (wa_nil ((⟨im_iI (vxs a ha), _, ⟨a, _, _, vxs a ha, rfl, rfl⟩, rfl, (⟨_, rfl, ⟨rfl, rfl, fun hp s H C cl fp => we_name 5 rfl rfl (.inl rfl) (⟨rfl, rfl⟩)⟩⟩)⟩)))))))))))))⟩) (we_list (wa_nil ⟨show 0 ≤ sizeLine by decide, wo_eqL0 (Nat.lt_of_succ_lt hu) (by first | rfl | exact VL.gL | assumption | exact VL.gA (by assumption) | exact VL.gA VL.gL | exact VL.gA (VL.gA (by assumption)) | exact VL.gM | exact VL.gA VL.gM | exact VL.gA (VL.gA VL.gL) | exact VL.gA (VL.gA (VL.gA VL.gL)) | exact VL.gD | exact VL.gA VL.gD | exact VL.gK (by assumption) | exact VL.gA (VL.gK (by assumption)) | exact VL.gA (VL.gA (VL.gK (by assumption))) | exact VL.gA (VL.gA (VL.gA (VL.gK (by assumption))))) (by first | rfl | exact VL.gL | assumption | exact VL.gA (by assumption) | exact VL.gA VL.gL | exact VL.gA (VL.gA (by assumption)) | exact VL.gM | exact VL.gA VL.gM | exact VL.gA (VL.gA VL.gL) | exact VL.gA (VL.gA (VL.gA VL.gL)) | exact VL.gD | exact VL.gA VL.gD | exact VL.gK (by assumption) | exact VL.gA (VL.gK (by assumption)) | exact VL.gA (VL.gA (VL.gK (by assumption))) | exact VL.gA (VL.gA (VL.gA (VL.gK (by assumption))))) (⟨_, rfl, ⟨fun hk => we_non (?_), fun hk => we_tup (wa_cons (we_non (wa_cons (we_str (wa_nil ⟨show 2 ≤ sizeLine by decide, ?_⟩)))))⟩⟩)⟩))⟩)))))))))))⟩⟩⟩))))))))))))))))
            all_goals first
              | rfl
              | (cases hk; done)
              | (cases hk1; done)
              | (cases hk2; done)
              | (cases hk3; done)
              | (cases hk4; done)
              | (simp at hk; done)
              | (simp at hk1; done)
              | (simp at hk2; done)
              | (simp at hk3; done)
              | (simp at hk4; done)
              | skip
            all_goals try dsimp only
            · have : ¬ xs.length = rs.length := fun e => by rw [e] at hk1; simp at hk1
              have hb : isMarksD rs.length (.tup xs) = false := by
                show (decide (xs.length = rs.length) && _) = false
                rw [decide_eq_false this]; rfl
              rw [hb]; rfl
            · have e1 : xs.length = rs.length := by
                have : (xs.length : Int) = rs.length := by simpa using hk1
                omega
              rw [List.map_id'] at hk
              have hb : isMarksD rs.length (.tup xs) = true := by
                show (decide (xs.length = rs.length) && List.isEmpty _) = true
                rw [decide_eq_true e1, hk]; rfl
              rw [hb]; rfl
            · rw [List.map_id'] at hk
              have hb : isMarksD rs.length (.tup xs) = false := by
                show (_ && List.isEmpty _) = false
                rw [hk, Bool.and_false]
              rw [hb]; rfl
          | _ =>
            refine wss_cons (ws_if (wt_w (wt_or2 (wt_not (wt_val (we_callB g_isinstance (by decide +kernel) rfl (wa_cons (we_ix (we_name 0 rfl rfl (.inl rfl) (we_int (wx_T (by rfl) (wa_cons (we_ty g_tuple rfl (by decide +kernel) (wa_nil (wc_isiT (by first | rfl | assumption) (⟨_, rfl, ⟨fun hk => False.elim ?_, fun hk => ⟨fun hk1 => wss_one (ws_ret (we_tup (wa_cons (we_non (wa_cons (we_str (wa_nil ⟨show 2 ≤ sizeLine by decide, ?_⟩))))))), fun hk1 => False.elim ?_⟩⟩⟩))))))))))))))))
            all_goals first
              | rfl
              | (cases hk; done)
              | (cases hk1; done)
              | (cases hk2; done)
              | (cases hk3; done)
              | (cases hk4; done)
              | (simp at hk; done)
              | (simp at hk1; done)
              | (simp at hk2; done)
              | (simp at hk3; done)
              | (simp at hk4; done)
              | skip
            all_goals try dsimp only
      · have hE := err_rows (m := m0) h1 fun rs e => Classical.byContradiction fun hn => hr' ⟨rs, e, hn⟩
        rw [hE]
        cases r with
        | tup rs =>
          have hre : rs = [] := Classical.byContradiction fun hn => hr' ⟨rs, rfl, hn⟩
          subst hre
          refine wss_cons (ws_if (wt_w (wt_or2 (wt_not (wt_val (we_callB g_isinstance (by decide +kernel) rfl (wa_cons (we_name 0 rfl rfl (.inl rfl) (wa_cons (we_ty g_tuple rfl (by decide +kernel) (wa_nil (wc_isiT (by first | rfl | assumption) (⟨_, rfl, ⟨fun hk => wt_or1 (wt_cmp (we_callB g_len (by decide +kernel) rfl (wa_cons (we_name 0 rfl rfl (.inl rfl) (wa_nil (wc_lenT (we_int (wo_neI (⟨_, rfl, ⟨fun hk1 => False.elim ?_, fun hk1 => wss_nil (wss_cons (ws_if (wt_not (wt_val (we_callP D__law_whole (hr.mono (by omega)) hgd rfl (wa_cons (we_ix (we_name 0 rfl rfl (.inl rfl) (we_int (wx_T (by rfl) (wa_cons (we_int (wa_cons (we_int (wa_nil ((⟨im_iI vl, _, ⟨.int L, _, _, vl, rfl, rfl⟩, rfl, (⟨_, rfl, ⟨fun hk2 => False.elim ?_, fun hk2 => wss_nil (wss_cons (ws_if (wt_w (wt_or2 (wt_not (wt_val (we_callB g_isinstance (by decide +kernel) rfl (wa_cons (we_ix (we_name 0 rfl rfl (.inl rfl) (we_int (wx_T (by rfl) (wa_cons (we_ty g_tuple rfl (by decide +kernel) (wa_nil (wc_isiT (by first | rfl | assumption) (⟨_, rfl, ⟨fun hk => wt_or1 (wt_cmp (we_callB g_len (by decide +kernel) rfl (wa_cons (we_ix (we_name 0 rfl rfl (.inl rfl) (we_int (wx_T (by rfl) (wa_nil (wc_lenT (we_int (wo_eqI (⟨_, rfl, ⟨fun hk3 => wss_one (ws_ret (we_tup (wa_cons (we_non (wa_cons (we_str (wa_nil ⟨show 2 ≤ sizeLine by decide, ?_⟩))))))), fun hk3 => False.elim ?_⟩⟩)))))))))))), fun hk => ⟨fun hk3 => wss_one (ws_ret (we_tup (wa_cons (we_non (wa_cons (we_str (wa_nil ⟨show 2 ≤ sizeLine by decide, ?_⟩))))))), fun hk3 => False.elim ?_⟩⟩⟩)))))))))))))))))⟩⟩)⟩)))))))))))))))))⟩⟩))))))))), fun hk => False.elim ?_⟩⟩)))))))))))))
          all_goals first
            | rfl
            | (cases hk; done)
            | (cases hk1; done)
            | (cases hk2; done)
            | (cases hk3; done)
            | (cases hk4; done)
            | (simp at hk; done)
            | (simp at hk1; done)
            | (simp at hk2; done)
            | (simp at hk3; done)
            | (simp at hk4; done)
            | skip
          all_goals try dsimp only
          all_goals (rw [h1] at hk2; cases hk2)
        | _ =>
          refine wss_cons (ws_if (wt_w (wt_or2 (wt_not (wt_val (we_callB g_isinstance (by decide +kernel) rfl (wa_cons (we_name 0 rfl rfl (.inl rfl) (wa_cons (we_ty g_tuple rfl (by decide +kernel) (wa_nil (wc_isiT (by first | rfl | assumption) (⟨_, rfl, ⟨fun hk => wt_or1 (wt_cmp (we_callB g_len (by decide +kernel) rfl (wa_cons (we_name 0 rfl rfl (.inl rfl) (wa_nil (wc_lenT (we_int (wo_neI (⟨_, rfl, ⟨fun hk1 => False.elim ?_, fun hk1 => wss_nil (wss_cons (ws_if (wt_not (wt_val (we_callP D__law_whole (hr.mono (by omega)) hgd rfl (wa_cons (we_ix (we_name 0 rfl rfl (.inl rfl) (we_int (wx_T (by rfl) (wa_cons (we_int (wa_cons (we_int (wa_nil ((⟨im_iI vl, _, ⟨.int L, _, _, vl, rfl, rfl⟩, rfl, (⟨_, rfl, ⟨fun hk2 => False.elim ?_, fun hk2 => wss_nil (wss_cons (ws_if (wt_w (wt_or2 (wt_not (wt_val (we_callB g_isinstance (by decide +kernel) rfl (wa_cons (we_ix (we_name 0 rfl rfl (.inl rfl) (we_int (wx_T (by rfl) (wa_cons (we_ty g_tuple rfl (by decide +kernel) (wa_nil (wc_isiT (by first | rfl | assumption) (⟨_, rfl, ⟨fun hk => False.elim ?_, fun hk => ⟨fun hk3 => wss_one (ws_ret (we_tup (wa_cons (we_non (wa_cons (we_str (wa_nil ⟨show 2 ≤ sizeLine by decide, ?_⟩))))))), fun hk3 => False.elim ?_⟩⟩⟩)))))))))))))))))⟩⟩)⟩)))))))))))))))))⟩⟩))))))))), fun hk => False.elim ?_⟩⟩)))))))))))))
          all_goals first
            | rfl
            | (cases hk; done)
            | (cases hk1; done)
            | (cases hk2; done)
            | (cases hk3; done)
            | (cases hk4; done)
            | (simp at hk; done)
            | (simp at hk1; done)
            | (simp at hk2; done)
            | (simp at hk3; done)
            | (simp at hk4; done)
            | skip
          all_goals try dsimp only
          all_goals (rw [h1] at hk2; cases hk2)
  · rw [err_comp ht]
    cases d with
    | tup xs =>
      have hx : ¬ (xs.length : Int) = 3 := fun e => by
        have e : xs.length = 3 := by omega
        match xs, e with
        | [a, b, c], _ => exact ht ⟨a, b, c, rfl⟩
      refine wss_cons (ws_if (wt_w (wt_or2 (wt_not (wt_val (we_callB g_isinstance (by decide +kernel) rfl (wa_cons (we_name 0 rfl rfl (.inl rfl) (wa_cons (we_ty g_tuple rfl (by decide +kernel) (wa_nil (wc_isiT (by first | rfl | assumption) (⟨_, rfl, ⟨fun hk => wt_or1 (wt_cmp (we_callB g_len (by decide +kernel) rfl (wa_cons (we_name 0 rfl rfl (.inl rfl) (wa_nil (wc_lenT (we_int (wo_neI (⟨_, rfl, ⟨fun hk1 => wss_one (ws_ret (we_tup (wa_cons (we_non (wa_cons (we_str (wa_nil ⟨show 2 ≤ sizeLine by decide, ?_⟩))))))), fun hk1 => False.elim ?_⟩⟩))))))))), fun hk => ⟨fun hk1 => wss_one (ws_ret (we_tup (wa_cons (we_non (wa_cons (we_str (wa_nil ⟨show 2 ≤ sizeLine by decide, ?_⟩))))))), fun hk1 => False.elim ?_⟩⟩⟩)))))))))))))
      all_goals first
        | rfl
        | (cases hk; done)
        | (cases hk1; done)
        | (cases hk2; done)
        | (cases hk3; done)
        | (cases hk4; done)
        | (simp at hk; done)
        | (simp at hk1; done)
        | (simp at hk2; done)
        | (simp at hk3; done)
        | (simp at hk4; done)
        | skip
      all_goals try dsimp only
      all_goals (first | (simp at hk1; exact hx hk1) | skip)
    | _ =>
      refine wss_cons (ws_if (wt_w (wt_or2 (wt_not (wt_val (we_callB g_isinstance (by decide +kernel) rfl (wa_cons (we_name 0 rfl rfl (.inl rfl) (wa_cons (we_ty g_tuple rfl (by decide +kernel) (wa_nil (wc_isiT (by first | rfl | assumption) (⟨_, rfl, ⟨fun hk => False.elim ?_, fun hk => ⟨fun hk1 => wss_one (ws_ret (we_tup (wa_cons (we_non (wa_cons (we_str (wa_nil ⟨show 2 ≤ sizeLine by decide, ?_⟩))))))), fun hk1 => False.elim ?_⟩⟩⟩)))))))))))))
      all_goals first
        | rfl
        | (cases hk; done)
        | (cases hk1; done)
        | (cases hk2; done)
        | (cases hk3; done)
        | (cases hk4; done)
        | (simp at hk; done)
        | (simp at hk1; done)
        | (simp at hk2; done)
        | (simp at hk3; done)
        | (simp at hk4; done)
        | skip
      all_goals try dsimp only
abbrev v__law_otherwise (rk : Nat) : VSp := otherV rk
abbrev len__law_otherwise {rk : Nat} := @len_otherV rk
def oddD : List D := [.non, .bl true, .bl false, .int 0, .int 1, .int 2, .int 3, .int 4, .int (-1), .int (-2), .int 10000000000000000000000000000000000000000, .str "0", .str "a", .tup [], .tup [.int 0], .tup [.non], .rol [], .rod [] [], .tup [.int 0, .int 0, .int 0], .tup [.tup [.int 0, .int 0, .int 0]]]
theorem odd_val : ∀ d ∈ oddD, d.val = true := valAll_iff.mp rfl
theorem odd_sz {n : Nat} (h : 3 ≤ n) : ∀ d ∈ oddD, d.szB n = true := fun d hd => szB_mono h (szAll_iff.mp (show szAll 3 oddD = true from rfl) d hd)
abbrev s__law_otherwise : Stmt := topS 22
theorem sc__law_otherwise : FnScope ["_law_deck_here", "_law_value", "_law_deep", "_law_odd", "_law_at", "_law_way"] ["_law_deck_here", "_law_value", "_law_deep"] (defScope s__law_otherwise) := ⟨rfl, rfl, rfl, by decide +kernel, rfl, by decide +kernel, by decide +kernel⟩
theorem ok__law_otherwise (rk : Nat) {f : Addr} {fd : FuncData} (F : Fun K "_law_otherwise" "_law_otherwise" s__law_otherwise f fd) (T : Txt K mg t_END t_LETTERS t_MAX_LETTERS) (D__law_one : Dc P w K mg base 2 "_law_one" ["_law_deck_here", "_law_items"] v__law_one) (D__law_draw : Dc P w K mg base 1 "_law_draw" ["_law_deck_here", "_law_most"] v__law_draw) (Dr : ∀ m, m < rk → Dc P w K mg base (m + 3) "_law_otherwise" ["_law_deck_here", "_law_value", "_law_deep"] (v__law_otherwise m)) : FnG P w K mg base (rk + 3) f fd ["_law_deck_here", "_law_value", "_law_deep"] (spOf K (v__law_otherwise rk)) := by
  obtain ⟨g_END, g_LETTERS, g_MAX_LETTERS, g_abs, g_bool, g_enumerate, g_int, g_isinstance, g_len, g_list, g_max, g_range, g_repr, g_tuple⟩ := T
  have sc := sc__law_otherwise
  refine vfnW F sc__law_otherwise len__law_otherwise (fun cdv A outer s H hr hgd B cells c dl' ok hc h => ?_)
  have hu := hu_of hr
  have D__law_one_L := D__law_one.of (φ' := oneLV) fun _ _ _ h => .inl h
  have D__law_one_S := D__law_one.of (φ' := oneSV) fun _ _ _ h => .inr (.inl h)
  have D__law_one_T := D__law_one.of (φ' := oneTV) fun _ _ _ h => .inr (.inr h)
  obtain ⟨d, n, rfl, hv, hz, hn⟩ := h
  have c0 := ok.cn
  have hcc : c + 10 * (rk + 1 : Nat) ≤ 1099511627776 := hc
  have hk0 := val_tyK hv
  refine wss_cons (ws_set 3 sc.nd rfl (.inl rfl) (.inl rfl) (we_list (wa_pures (.cons (we_non (⟨rfl, rfl⟩)) (.cons (we_bl (⟨rfl, rfl⟩)) (.cons (we_bl (⟨rfl, rfl⟩)) (.cons (we_int (⟨rfl, rfl⟩)) (.cons (we_int (⟨rfl, rfl⟩)) (.cons (we_int (⟨rfl, rfl⟩)) (.cons (we_int (⟨rfl, rfl⟩)) (.cons (we_int (⟨rfl, rfl⟩)) (.cons (we_un (we_int (wu_neg (⟨rfl, rfl⟩)))) (.cons (we_un (we_int (wu_neg (⟨rfl, rfl⟩)))) (.cons (we_bin (we_int (we_int (wo_powC 10000000000000000000000000000000000000000 (by decide) ⟨by decide, by decide, by decide⟩ (⟨rfl, rfl⟩))))) (.cons (we_str (⟨rfl, rfl⟩)) (.cons (we_str (⟨rfl, rfl⟩)) (.cons (we_tup (wa_nil ⟨show 0 ≤ sizeLine by decide, ⟨rfl, rfl⟩⟩)) (.cons (we_tup (wa_cons (we_int (wa_nil ⟨show 1 ≤ sizeLine by decide, ⟨rfl, rfl⟩⟩)))) (.cons (we_tup (wa_cons (we_non (wa_nil ⟨show 1 ≤ sizeLine by decide, ⟨rfl, rfl⟩⟩)))) (.cons (we_frzL (we_list (wa_nil ⟨show 0 ≤ sizeLine by decide, ⟨_, _, rfl, rfl, by first | exact Nat.le_refl _ | (simp; done) | omega, (dk_cl cells c (show 1 ≤ 2 by decide)), (rfl), ⟨rfl, rfl⟩⟩⟩))) (.cons (we_frzD (we_dict0 (⟨_, _, rfl, rfl, by first | exact Nat.le_refl _ | (simp; done) | omega, (dk_cl cells c (show 1 ≤ 2 by decide)), (rfl), ⟨rfl, rfl⟩⟩))) (.cons (we_tup (wa_cons (we_int (wa_cons (we_int (wa_cons (we_int (wa_nil ⟨show 3 ≤ sizeLine by decide, ⟨rfl, rfl⟩⟩)))))))) (.cons (we_tup (wa_cons (we_tup (wa_cons (we_int (wa_cons (we_int (wa_cons (we_int (wa_nil ⟨show 3 ≤ sizeLine by decide, wa_nil ⟨show 1 ≤ sizeLine by decide, ⟨rfl, rfl⟩⟩⟩)))))))))) (.nil))))))))))))))))))))) ⟨show 20 ≤ sizeLine by decide, ?_⟩)))
  show WSs _ B 2 [some (.obj 1), some d, some (.int (rk : Nat)), some (.obj 2), none, none] (dk cells c ++ [.lst oddD]) _ _
  have kodd : (dk cells c ++ [Ob.lst oddD])[2]? = some (.lst (oddD.map fun d => d)) := by rw [List.map_id']; rfl
  have iodd : imAll (oddD.map fun d => d) = true := by rw [List.map_id']; exact valAll_im (valAll_iff.mpr odd_val)
  by_cases ht : ∃ xs, d = .tup xs ∧ xs ≠ []
  · obtain ⟨xs, rfl, hne⟩ := ht
    have hx := sz_tup hz
    have hvx := val_tup hv
    have hpos : 0 < xs.length := List.length_pos_iff.mpr hne
    cases rk with
    | zero =>
      refine wss_cons (ws_if (wt_w (wt_or2 (wt_not (wt_val (we_callB g_isinstance (by decide +kernel) rfl (wa_cons (we_name 1 rfl rfl (.inl rfl) (wa_cons (we_ty g_tuple rfl (by decide +kernel) (wa_nil (wc_isiT (by first | rfl | assumption) (⟨_, rfl, ⟨fun hk => wt_or2 (wt_cmp (we_name 1 rfl rfl (.inl rfl) (we_tup (wa_nil ⟨show 0 ≤ sizeLine by decide, wo_eqT0 (Nat.lt_of_succ_lt hu) (⟨_, rfl, ⟨fun hk => wt_or2 (wt_cmp (we_name 2 rfl rfl (.inl rfl) (we_int (wo_eqI (⟨_, rfl, ⟨fun hk => False.elim ?_, fun hk => ⟨fun hk1 => wss_one (ws_ret (we_oneL D__law_one_L (hr.mono (by omega)) hgd rfl (wa_cons (we_name 0 rfl rfl (.inl rfl) (wa_cons (we_name 3 rfl rfl (.inl rfl) (wa_nil ((⟨cells, c, [.lst oddD], 2, oddD, fun d => d, rfl, rfl, ok, kodd, by decide, iodd, by show c + 1 ≤ 1099511627776; omega, by simp [oddD], by decide, fun a cells' c' ok' g1 g2 ha => (?_)⟩))))))))), fun hk1 => False.elim ?_⟩⟩⟩))))), fun hk => False.elim ?_⟩⟩)⟩)))), fun hk => False.elim ?_⟩⟩)))))))))))))
      all_goals first
        | rfl
        | (cases hk; done)
        | (cases hk1; done)
        | (cases hk2; done)
        | (cases hk3; done)
        | (cases hk4; done)
        | (simp at hk; done)
        | (simp at hk1; done)
        | (simp at hk2; done)
        | (simp at hk3; done)
        | (simp at hk4; done)
        | skip
      all_goals try dsimp only
      all_goals first | (simp at hk; exact hne hk) | (simp at hk; done) | exact ⟨a, cells', c', [.lst oddD], rfl, val_im (odd_val a ha), ok', by omega, by omega, ⟨odd_val a ha, fun d' n' e hz' h3 => odd_sz (by omega) a ha⟩, rfl⟩
    | succ rk =>
      have hcl : imAll xs = true := valAll_im (valAll_iff.mpr hvx)
      have hge : ∀ (cells : List Int) (c : Int), (dk cells c ++ [Ob.lst oddD])[2]? = some (.lst (oddD.map fun d => d)) := fun cells c => by rw [List.map_id']; rfl
      refine wss_cons (ws_if (wt_w (wt_or2 (wt_not (wt_val (we_callB g_isinstance (by decide +kernel) rfl (wa_cons (we_name 1 rfl rfl (.inl rfl) (wa_cons (we_ty g_tuple rfl (by decide +kernel) (wa_nil (wc_isiT (by first | rfl | assumption) (⟨_, rfl, ⟨fun hk => wt_or2 (wt_cmp (we_name 1 rfl rfl (.inl rfl) (we_tup (wa_nil ⟨show 0 ≤ sizeLine by decide, wo_eqT0 (Nat.lt_of_succ_lt hu) (⟨_, rfl, ⟨fun hk => wt_or2 (wt_cmp (we_name 2 rfl rfl (.inl rfl) (we_int (wo_eqI (⟨_, rfl, ⟨fun hk => wt_or1 (wt_cmp (we_callW D__law_draw (hr.mono (by omega)) hgd rfl (wa_cons (we_name 0 rfl rfl (.inl rfl) (wa_cons (we_int (wa_nil ((⟨cells, c, [.lst oddD], _, rfl, rfl, ok, rfl, by show c + 1 ≤ 1099511627776; omega, ⟨6, rfl, by decide, by decide⟩, fun k cells1 c1 ok1 g1 g2 hp => ⟨rfl, (we_int (wo_eqI (⟨_, rfl, ⟨fun hk1 => wss_one (ws_ret (we_oneL D__law_one_L (hr.mono (by omega)) hgd rfl (wa_cons (we_name 0 rfl rfl (.inl rfl) (wa_cons (we_name 3 rfl rfl (.inl rfl) (wa_nil ((⟨cells1, c1, [.lst oddD], 2, oddD, fun d => d, rfl, rfl, ok1, hge _ _, by decide, iodd, by show c1 + 1 ≤ 1099511627776; omega, by simp [oddD], by decide, fun a cells' c' ok' g3 g4 ha => (?_)⟩))))))))), fun hk1 => wss_nil (?_)⟩⟩)))⟩⟩))))))))), fun hk => False.elim ?_⟩⟩))))), fun hk => False.elim ?_⟩⟩)⟩)))), fun hk => False.elim ?_⟩⟩)))))))))))))
      all_goals first
        | rfl
        | (cases hk; done)
        | (cases hk1; done)
        | (cases hk2; done)
        | (cases hk3; done)
        | (cases hk4; done)
        | (simp at hk; done)
        | (simp at hk1; done)
        | (simp at hk2; done)
        | (simp at hk3; done)
        | (simp at hk4; done)
        | skip
      all_goals try dsimp only
      · exact ⟨a, cells', c', [.lst oddD], rfl, val_im (odd_val a ha), ok', by omega, by omega, ⟨odd_val a ha, fun d' n' e hz' h3 => odd_sz (by omega) a ha⟩, rfl⟩
      · have c1' : c1 ≤ c + 1 := g2
        have h16 : xs.length ≤ 1000 := by have := hx.1; omega
        refine wss_cons (ws_par 4 5 rfl sc.nd rfl rfl (by decide) rfl rfl (we_callW D__law_draw (hr.mono (by omega)) hgd rfl (wa_cons (we_name 0 rfl rfl (.inl rfl) (wa_cons (we_callB g_len (by decide +kernel) rfl (wa_cons (we_name 1 rfl rfl (.inl rfl) (wa_nil (wc_lenT (wa_nil ((⟨cells1, c1, [.lst oddD], _, rfl, rfl, ok1, rfl, by show c1 + 1 ≤ 1099511627776; omega, ⟨_, rfl, by omega, by omega⟩, fun k1 cells2 c2 ok2 g3 g4 hp2 => ⟨rfl, (we_callW D__law_draw (hr.mono (by omega)) hgd rfl (wa_cons (we_name 0 rfl rfl (.inl rfl) (wa_cons (we_int (wa_nil ((⟨cells2, c2, [.lst oddD], _, rfl, rfl, ok2, rfl, by show c2 + 1 ≤ 1099511627776; omega, ⟨_, rfl, by decide, by decide⟩, fun k2 cells3 c3 ok3 g5 g6 hp3 => ⟨rfl, (?_)⟩⟩))))))))⟩⟩)))))))))))))
        have hk1 := hp2 _ rfl
        obtain ⟨j, rfl⟩ : ∃ j : Nat, k1 = (j : Int) := ⟨k1.toNat, by omega⟩
        have hjl : j < xs.length := by omega
        show WSs _ B 2 [some (.obj 1), some (.tup xs), some (.int ((rk + 1 : Nat) : Int)), some (.obj 2), some (.int j), some (.int k2)] (dk cells3 c3 ++ [.lst oddD]) _ _
        have vj := hvx _ (List.getElem_mem hjl)
        have zj := hx.2 _ (List.getElem_mem hjl)
        have h16z : (1002 : Nat) ≤ sizeLine := by decide
        have fin : ∀ (ys : List D) (cells' : List Int) (c' : Int), (∀ y ∈ ys, y.val = true ∧ ∀ m, (D.tup xs).szB m = true → 3 ≤ m → y.szB (m + 1) = true) → ys.length ≤ xs.length + 1 → DkOk cells' c' → c ≤ c' → c' ≤ c + 10 * (rk + 1 + 1 : Nat) → ∃ a cells'' c'' rest, D.tup ys = a ∧ a.im = true ∧ DkOk cells'' c'' ∧ c ≤ c'' ∧ c'' ≤ c + 10 * ((rk + 1 + 1 : Nat) : Int) ∧ (a.val = true ∧ ∀ (d : D) (n : Nat), [D.tup xs, D.int ((rk + 1 : Nat) : Int)] = [d, D.int ((rk + 1 : Nat) : Int)] → D.szB n d = true → 3 ≤ n → D.szB (n + 1) a = true) ∧ dk cells' c' ++ [Ob.lst oddD] = dk cells'' c'' ++ rest := fun ys cells' c' hy hl ok' e1 e2 =>
          have hv' : (D.tup ys).val = true := val_mk fun y h => (hy y h).1
          ⟨_, cells', c', _, rfl, val_im hv', ok', e1, e2, ⟨hv', fun d m e hz' h3 => by
            have e' := (List.cons.inj e).1
            subst e'
            exact sz_mk (by have := (sz_tup hz').1; omega) fun y h => (hy y h).2 m hz' h3⟩, rfl⟩
        have old : ∀ y ∈ xs, y.val = true ∧ ∀ m, (D.tup xs).szB m = true → 3 ≤ m → y.szB (m + 1) = true := fun y hy => ⟨hvx y hy, fun m h _ => szB_mono (by omega) ((sz_tup h).2 y hy)⟩
        refine wss_cons (ws_if (wt_cmp (we_name 5 rfl rfl (.inl rfl) (we_int (wo_eqI (⟨_, rfl, ⟨fun hk1 => wss_one (ws_ret (we_bin (we_slice (we_name 1 rfl rfl (.inl rfl) (we_name 4 rfl rfl (.inl rfl) (⟨_, rfl, wl_T (we_slice (we_name 1 rfl rfl (.inl rfl) (we_bin (we_name 4 rfl rfl (.inl rfl) (we_int (wo_addI (⟨_, rfl, wl_T (wo_addT ?_ (?_))⟩)))))))⟩)))))), fun hk1 => wss_nil (wss_cons (ws_if (wt_cmp (we_name 5 rfl rfl (.inl rfl) (we_int (wo_eqI (⟨_, rfl, ⟨fun hk2 => wss_one (ws_ret (we_bin (we_name 1 rfl rfl (.inl rfl) (we_slice (we_name 1 rfl rfl (.inl rfl) (we_name 4 rfl rfl (.inl rfl) (⟨_, rfl, we_bin (we_name 4 rfl rfl (.inl rfl) (we_int (wo_addI (⟨_, rfl, wl_T (wo_addT ?_ (?_))⟩))))⟩))))))), fun hk2 => wss_nil (wss_cons (ws_if (wt_cmp (we_name 5 rfl rfl (.inl rfl) (we_int (wo_eqI (⟨_, rfl, ⟨fun hk3 => wss_one (ws_ret (we_frzL (we_callTy g_list (by decide +kernel) rfl (wa_cons (we_name 1 rfl rfl (.inl rfl) (wa_nil (wc_listT (⟨_, _, rfl, rfl, by first | exact Nat.le_refl _ | (simp; done) | omega, ?_, ?_, ?_⟩)))))))), fun hk3 => wss_nil (wss_cons (ws_if (wt_cmp (we_name 5 rfl rfl (.inl rfl) (we_int (wo_eqI (⟨_, rfl, ⟨fun hk4 => wss_one (ws_ret (we_revT (we_name 1 rfl rfl (.inl rfl) (⟨_, rfl, ?_⟩)))), fun hk4 => wss_nil (wss_one (ws_ret (we_bin (we_bin (we_slice (we_name 1 rfl rfl (.inl rfl) (we_name 4 rfl rfl (.inl rfl) (⟨_, rfl, wl_T (we_tup (wa_cons (we_callW (Dr rk (by omega)) (hr.mono (by omega)) hgd rfl (wa_cons (we_name 0 rfl rfl (.inl rfl) (wa_cons (we_ix (we_name 1 rfl rfl (.inl rfl) (we_name 4 rfl rfl (.inl rfl) (wx_T ((atI_nat (List.getElem?_eq_getElem hjl))) (wa_cons (we_bin (we_name 2 rfl rfl (.inl rfl) (we_int (wo_subI (wa_nil ((⟨cells3, c3, [.lst oddD], _, rfl, rfl, ok3, im_iM vj, by show c3 + 10 * (rk + 1 : Nat) ≤ 1099511627776; omega, ⟨xs[j], n, by rw [show (((rk + 1 : Nat) : Int) - 1) = (rk : Nat) by omega], vj, zj, hn⟩, fun v cells4 c4 ok4 g7 g8 hp4 => ⟨val_im hp4.1, (wa_nil ⟨show 1 ≤ sizeLine by decide, wo_addT ?_ (we_slice (we_name 1 rfl rfl (.inl rfl) (we_bin (we_name 4 rfl rfl (.inl rfl) (we_int (wo_addI (⟨_, rfl, wl_T (wo_addT ?_ (?_))⟩)))))))⟩)⟩⟩))))))))))))))))))⟩))))))))⟩⟩)))))))⟩⟩)))))))⟩⟩)))))))⟩⟩))))))
        all_goals try dsimp only
        all_goals (try rw [cutD_eq]) <;> (try rw [cutD_eq]) <;> (try rw [cutN_to]) <;> (try rw [show ((j : Int) + 1) = ((j + 1 : Nat) : Int) by omega]) <;> (try rw [cutN_from]) <;> (try rw [cutN_both])
        · rw [List.length_take, List.length_drop]; omega
        · refine fin _ _ _ (fun y hy => ?_) (by rw [List.length_append, List.length_take, List.length_drop]; omega) ok3 (by omega) (by omega)
          rcases List.mem_append.mp hy with z | z
          · exact old y (List.mem_of_mem_take z)
          · exact old y (List.mem_of_mem_drop z)
        · rw [List.length_take, List.length_drop]; omega
        · refine fin _ _ _ (fun y hy => ?_) (by rw [List.length_append, List.length_take, List.length_drop]; omega) ok3 (by omega) (by omega)
          rcases List.mem_append.mp hy with z | z
          · exact old y z
          · exact old y (List.mem_of_mem_drop (List.mem_of_mem_take z))
        · show (dk cells3 c3 ++ [Ob.lst oddD]).all (Ob.cl 3) = true
          rw [List.all_append, dk_cl cells3 c3 (show 1 ≤ 3 by decide)]
          show (clAll 3 oddD && true) = true
          rw [im_clA (valAll_im (valAll_iff.mpr odd_val))]; rfl
        · exact hcl
        · have hvr : (D.rol xs).val = true := val_mkL hvx
          exact ⟨_, cells3, c3, _, rfl, val_im hvr, ok3, by omega, by omega, ⟨hvr, fun _ _ _ _ _ => rfl⟩, rfl⟩
        · exact fin _ _ _ (fun y hy => old y (List.mem_reverse.mp hy)) (by rw [List.length_reverse]; omega) ok3 (by omega) (by omega)
        · rw [List.length_take]; show _ + 1 ≤ sizeLine; omega
        · rw [List.length_append, List.length_take, List.length_drop]; show _ + 1 + _ ≤ sizeLine; omega
        · refine fin _ _ _ (fun y hy => ?_) (by rw [List.length_append, List.length_append, List.length_take, List.length_drop]; show _ + 1 + _ ≤ _; omega) ok4 (by omega) (by omega)
          rcases List.mem_append.mp hy with z | z
          · rcases List.mem_append.mp z with z | z
            · exact old y (List.mem_of_mem_take z)
            · rw [List.mem_singleton.mp z]
              refine ⟨hp4.1, fun m h h3 => hp4.2 xs[j] m (by rw [show (((rk + 1 : Nat) : Int) - 1) = (rk : Nat) by omega]) ((sz_tup h).2 _ (List.getElem_mem hjl)) h3⟩
          · exact old y (List.mem_of_mem_drop z)
      all_goals first | (simp at hk; exact hne hk) | (simp at hk; done)
  · by_cases hn' : d = .tup []
    · subst hn'
      refine wss_cons (ws_if (wt_w (wt_or2 (wt_not (wt_val (we_callB g_isinstance (by decide +kernel) rfl (wa_cons (we_name 1 rfl rfl (.inl rfl) (wa_cons (we_ty g_tuple rfl (by decide +kernel) (wa_nil (wc_isiT (by first | rfl | assumption) (⟨_, rfl, ⟨fun hk => wt_or2 (wt_cmp (we_name 1 rfl rfl (.inl rfl) (we_tup (wa_nil ⟨show 0 ≤ sizeLine by decide, wo_eqT0 (Nat.lt_of_succ_lt hu) (⟨_, rfl, ⟨fun hk => False.elim ?_, fun hk => ⟨fun hk1 => wss_one (ws_ret (we_oneL D__law_one_L (hr.mono (by omega)) hgd rfl (wa_cons (we_name 0 rfl rfl (.inl rfl) (wa_cons (we_name 3 rfl rfl (.inl rfl) (wa_nil ((⟨cells, c, [.lst oddD], 2, oddD, fun d => d, rfl, rfl, ok, kodd, by decide, iodd, by show c + 1 ≤ 1099511627776; omega, by simp [oddD], by decide, fun a cells' c' ok' g1 g2 ha => (?_)⟩))))))))), fun hk1 => False.elim ?_⟩⟩⟩)⟩)))), fun hk => False.elim ?_⟩⟩)))))))))))))
      all_goals first
        | rfl
        | (cases hk; done)
        | (cases hk1; done)
        | (cases hk2; done)
        | (cases hk3; done)
        | (cases hk4; done)
        | (simp at hk; done)
        | (simp at hk1; done)
        | (simp at hk2; done)
        | (simp at hk3; done)
        | (simp at hk4; done)
        | skip
      all_goals try dsimp only
      all_goals first | (simp at hk; done) | exact ⟨a, cells', c', [.lst oddD], rfl, val_im (odd_val a ha), ok', by omega, by omega, ⟨odd_val a ha, fun d' n' e hz' h3 => odd_sz (by omega) a ha⟩, rfl⟩
    · cases d with
      | tup xs => exact absurd ⟨xs, rfl, fun e => hn' (by rw [e])⟩ ht
      | _ =>
        refine wss_cons (ws_if (wt_w (wt_or2 (wt_not (wt_val (we_callB g_isinstance (by decide +kernel) rfl (wa_cons (we_name 1 rfl rfl (.inl rfl) (wa_cons (we_ty g_tuple rfl (by decide +kernel) (wa_nil (wc_isiT (by first | rfl | assumption) (⟨_, rfl, ⟨fun hk => False.elim ?_, fun hk => ⟨fun hk1 => wss_one (ws_ret (we_oneL D__law_one_L (hr.mono (by omega)) hgd rfl (wa_cons (we_name 0 rfl rfl (.inl rfl) (wa_cons (we_name 3 rfl rfl (.inl rfl) (wa_nil ((⟨cells, c, [.lst oddD], 2, oddD, fun d => d, rfl, rfl, ok, kodd, by decide, iodd, by show c + 1 ≤ 1099511627776; omega, by simp [oddD], by decide, fun a cells' c' ok' g1 g2 ha => (?_)⟩))))))))), fun hk1 => False.elim ?_⟩⟩⟩)))))))))))))
        all_goals first
          | rfl
          | (cases hk; done)
          | (cases hk1; done)
          | (cases hk2; done)
          | (cases hk3; done)
          | (cases hk4; done)
          | (simp at hk; done)
          | (simp at hk1; done)
          | (simp at hk2; done)
          | (simp at hk3; done)
          | (simp at hk4; done)
          | skip
        all_goals try dsimp only
        all_goals exact ⟨a, cells', c', [.lst oddD], rfl, val_im (odd_val a ha), ok', by omega, by omega, ⟨odd_val a ha, fun d' n' e hz' h3 => odd_sz (by omega) a ha⟩, rfl⟩
abbrev v_law : VSp := lawV 63
theorem len_law : ∀ dl ms R, v_law dl ms R → dl.length = 1 := by rintro dl ms R ⟨ns, _, rfl, _⟩; rfl
def V0 (cm : Cmp) : List D := [cm.d, .rol [.int cm.L, .tup (cm.rows.map rowD), .tup (cm.marks.map D.int)], .tup [.int cm.L, .tup (cm.rows.map rowD)], .tup [.int cm.L, .tup (cm.rows.map rowD), .tup (cm.marks.map D.int), .int 0], .non, .int 3, .str "comp", .rod [] [], .tup [], .tup [.int 1, .tup [], .tup []], .tup [.int 0, .tup [.tup [.int 0]], .tup [.int 0]]]
abbrev s_law : Stmt := topS 23
theorem sc_law : FnScope ["_law_script", "_law_deck_here", "_law_letters", "_law_turn", "_law_comp_here", "_law_values", "_law_value", "_law_k"] ["_law_script"] (defScope s_law) := ⟨rfl, rfl, rfl, by decide +kernel, rfl, by decide +kernel, by decide +kernel⟩
theorem ok_law {f : Addr} {fd : FuncData} (F : Fun K "law" "law" s_law f fd) (T : Txt K mg t_END t_LETTERS t_MAX_LETTERS) (D__law_deck : Dc P w K mg base 1 "_law_deck" ["_law_script"] v__law_deck) (D__law_comp : Dc P w K mg base 3 "_law_comp" ["_law_deck_here", "_law_letters", "_law_states"] v__law_comp) (D_columns : Dc P w K mg base 2 "columns" ["letters"] v_columns) (D__law_otherwise : Dc P w K mg base 6 "_law_otherwise" ["_law_deck_here", "_law_value", "_law_deep"] (v__law_otherwise 3)) (D__law_columns : Dc P w K mg base 1 "_law_columns" ["_law_letters"] v__law_columns) (D__law_draw : Dc P w K mg base 1 "_law_draw" ["_law_deck_here", "_law_most"] v__law_draw) (D__law_one : Dc P w K mg base 2 "_law_one" ["_law_deck_here", "_law_items"] v__law_one) (D_comp_error : Dc P w K mg base 4 "comp_error" ["value"] v_comp_error) (D__law_due : Dc P w K mg base 2 "_law_due" ["_law_value"] v__law_due) : FnG P w K mg base 7 f fd ["_law_script"] (spOf K v_law) := by
  obtain ⟨g_END, g_LETTERS, g_MAX_LETTERS, g_abs, g_bool, g_enumerate, g_int, g_isinstance, g_len, g_list, g_max, g_range, g_repr, g_tuple⟩ := T
  have sc := sc_law
  refine vfn F sc_law len_law (fun cdv A outer s H hr hgd B dl ms R h => ?_)
  have hu := hu_of hr
  have D__law_one_L := D__law_one.of (φ' := oneLV) fun _ _ _ h => .inl h
  have D__law_one_S := D__law_one.of (φ' := oneSV) fun _ _ _ h => .inr (.inl h)
  have D__law_one_T := D__law_one.of (φ' := oneTV) fun _ _ _ h => .inr (.inr h)
  obtain ⟨ns, hl, rfl, rfl, q⟩ := h
  have hdk : dkMost = 1099511627776 := rfl
  refine wss_cons (ws_set 1 sc.nd rfl (.inl rfl) (.inl rfl) (we_callD D__law_deck (hr.mono (by omega)) hgd rfl (wa_cons (we_name 0 rfl rfl (.inl rfl) (wa_nil ((callF_deck hl fun cells ok => (wss_cons (ws_for rfl PassesOwn.never (wi_tup (we_tup (wa_cons (we_int (wa_cons (we_int (wa_cons (we_int (wa_nil ⟨show 3 ≤ sizeLine by decide, ⟨_, rfl, ?_⟩⟩))))))))))))))))))
  refine ⟨fun i ds m => ∃ (cells : List Int) (o2 : Option D) (rest : List Ob), DkOk cells 0 ∧ (∀ d, o2 = some d → d.cl 2 = true) ∧ ds = [some (.rol (ns.map D.int)), some (.obj 1), o2, none, none, none, none, none] ∧ m = dk cells 0 ++ rest, ⟨cells, none, [], ok, fun _ h => (by cases h), rfl, rfl⟩, fun _ _ _ _ => trivial, ?_, ?_⟩
  · rintro i d ds m hi ⟨cells, o2, rest, ok, ho, rfl, rfl⟩
    obtain ⟨L, l1, l3, rfl⟩ : ∃ L : Nat, 1 ≤ L ∧ L ≤ 3 ∧ d = .int L := by
      match i, hi with
      | 0, hi => cases hi; exact ⟨1, by decide, by decide, rfl⟩
      | 1, hi => cases hi; exact ⟨2, by decide, by decide, rfl⟩
      | 2, hi => cases hi; exact ⟨3, by decide, by decide, rfl⟩
    refine wg_name 2 sc.nd rfl (.inl rfl) (.inl rfl) ?_
    refine wss_dk (Nat.le_refl 2) (by show (D.cl 2 (.rol (ns.map D.int)) && _) = true; rw [im_cl (by unfold D.im; exact im_ints ns)]; rfl) ?_
    show WSs _ _ _ [some (.rol (ns.map D.int)), some (.obj 1), some (.int L), none, none, none, none, none] (dk cells 0) _ _
    refine wss_one (ws_if (wt_cmp (we_callP D_columns (hr.mono (by omega)) hgd rfl (wa_cons (we_name 2 rfl rfl (.inl rfl) (wa_nil ((⟨rfl, _, ⟨L, rfl, l1, l3, rfl⟩, im_dS _, (we_callTy g_tuple (by decide +kernel) rfl (wa_cons (we_callL D__law_columns (hr.mono (by omega)) hgd rfl (wa_cons (we_name 2 rfl rfl (.inl rfl) (wa_nil ((⟨rfl, _, ⟨L, rfl, l1, l3, rfl⟩, im_dS _, (wa_nil (wc_tupleL (by first | rfl | exact VL.gL | assumption | exact VL.gA (by assumption) | exact VL.gA VL.gL | exact VL.gA (VL.gA (by assumption)) | exact VL.gM | exact VL.gA VL.gM | exact VL.gA (VL.gA VL.gL) | exact VL.gA (VL.gA (VL.gA VL.gL)) | exact VL.gD | exact VL.gA VL.gD | exact VL.gK (by assumption) | exact VL.gA (VL.gK (by assumption)) | exact VL.gA (VL.gA (VL.gK (by assumption))) | exact VL.gA (VL.gA (VL.gA (VL.gK (by assumption))))) ((wo_neSame (hu64 hr) (sh_cols l1 l3) (by decide) (⟨_, rfl, ⟨fun hk1 => False.elim ?_, fun hk1 => wss_nil (?_)⟩⟩)))))⟩))))))))⟩))))))))
    · cases hk1
    · exact ⟨cells, _, _, ok, fun d h => (by cases h; rfl), rfl, rfl⟩
  · rintro ds m ⟨cells, o2, rest, ok, ho2, rfl, rfl⟩
    have ir : D.cl 2 (.rol (ns.map D.int)) = true := im_cl (by unfold D.im; exact im_ints ns)
    refine wss_dk (Nat.zero_le 2) (by cases o2 with | none => (show (D.cl 2 (.rol (ns.map D.int)) && _) = true; rw [ir]; rfl) | some d => (show (D.cl 2 (.rol (ns.map D.int)) && (_ && (D.cl 2 d && _))) = true; rw [ir, ho2 d rfl]; rfl)) ?_
    refine wss_cons (ws_for rfl PassesOwn.never (wi_range1 g_range rfl (we_int (⟨_, rfl, (by decide), (by decide), ?_⟩))))
    refine ⟨fun i ds m => ∃ (cells : List Int) (c : Int) (o2 o3 o4 o5 o6 o7 : Option D) (rest : List Ob), DkOk cells c ∧ c ≤ 10000 * i ∧ ds = [some (.rol (ns.map D.int)), some (.obj 1), o2, o3, o4, o5, o6, o7] ∧ m = dk cells c ++ rest, ⟨cells, 0, _, _, _, _, _, _, [], ok, Int.le_refl 0, rfl, by rw [List.append_nil]⟩, fun _ _ _ _ => trivial, ?_, ?_⟩
    · rintro i d ds m hi ⟨cells, c, o2, o3, o4, o5, o6, o7, rest, ok, hc, rfl, rfl⟩
      obtain ⟨hin, rfl⟩ := getE_range hi
      have hin6 : i < 14 := hin
      have c0 := ok.cn
      refine wg_name 3 sc.nd rfl (.inl rfl) (.inl rfl) ?_
      refine wss_drop 2 (by simp [dk]) (Nat.le_refl 2) (dk_cl cells c (by decide)) [some (.rol (ns.map D.int)), some (.obj 1), none, none, none, none, none, none] rfl (fun j d h => ?_) ?_
      · match j, h with
        | 0, h => cases h; exact ⟨rfl, ir⟩
        | 1, h => cases h; exact ⟨rfl, rfl⟩
        | j + 2, h =>
          have : ∀ l : List (Option D), l = [none, none, none, none, none, none] → l[j]? ≠ some (some d) := by
            rintro l rfl e
            have := List.mem_of_getElem? e
            simp at this
          exact absurd h (this _ rfl)
      show WSs _ _ _ _ (dk cells c) _ _
      refine wss_cons (ws_set 4 sc.nd rfl (.inl rfl) (.inl rfl) (we_callW D__law_comp (hr.mono (by omega)) hgd rfl (wa_cons (we_name 1 rfl rfl (.inl rfl) (wa_cons (we_bin (we_int (we_callW D__law_draw (hr.mono (by omega)) hgd rfl (wa_cons (we_name 1 rfl rfl (.inl rfl) (wa_cons (we_int (wa_nil ((⟨cells, c, [], _, rfl, rfl, ok, rfl, by omega, ⟨3, rfl, by decide, by decide⟩, fun k cells1 c1 ok1 g1 g2 hp => ⟨rfl, (wo_addI (wa_cons (we_bin (we_int (we_callW D__law_draw (hr.mono (by omega)) hgd rfl (wa_cons (we_name 1 rfl rfl (.inl rfl) (wa_cons (we_oneL D__law_one_L (hr.mono (by omega)) hgd rfl (wa_cons (we_name 1 rfl rfl (.inl rfl) (wa_cons (we_list (wa_cons (we_int (wa_cons (we_int (wa_cons (we_int (wa_nil ⟨show 3 ≤ sizeLine by decide, wa_nil ((⟨cells1, c1, _, _, [3, 8, 60], D.int, rfl, rfl, ok1, gL, Nat.le_refl 2, rfl, by omega, by simp, by decide, fun a cells2 c2 ok2 g3 g4 ha => (wa_nil ((⟨cells2, c2, _, _, rfl, rfl, ok2, rfl, by omega, ⟨a, rfl, by simp at ha; omega, by simp at ha; omega⟩, fun k2 cells3 c3 ok3 g5 g6 hp2 => ⟨rfl, (wo_addI (wa_nil ((⟨cells3, c3, _, _, rfl, rfl, ok3, rfl, by omega, ⟨(1 + k).toNat, (1 + k2).toNat, by rw [Int.toNat_of_nonneg (by have := hp _ rfl; omega), Int.toNat_of_nonneg (by have := hp2 _ rfl; omega)], by have := hp _ rfl; omega, by have := hp _ rfl; omega, by have := hp2 _ rfl; omega, by have := hp2 _ rfl; simp at ha; omega⟩, fun cm cells4 c4 ok4 g7 g8 hp3 => ⟨Cmp.im _, (?_)⟩⟩))))⟩⟩)))⟩))⟩))))))))))))))))))))⟩⟩)))))))))))))))
      obtain ⟨okc, hcm⟩ := hp3
      have hk3 := hp _ rfl
      have hk4 := hp2 _ rfl
      have ha3 : 3 ≤ a ∧ a ≤ 60 := by simp at ha; omega
      have hL := (hcm (1 + k).toNat (1 + k2).toNat (by rw [Int.toNat_of_nonneg (by omega), Int.toNat_of_nonneg (by omega)]))
      have hrows : cm.rows.length ≤ 60 := by omega
      have icm : D.cl 2 cm.d = true := im_cl (Cmp.im cm)
      refine wss_dk (Nat.le_refl 2) (by show (D.cl 2 (.rol (ns.map D.int)) && (_ && (D.cl 2 cm.d && _))) = true; rw [ir, icm]; rfl) ?_
      have vcm := Cmp.val cm
      have vcs := val_tup vcm
      have zcm : cm.d.szB 64 = true := okc.sz_ (by decide) (by omega)
      have ics : imAll [D.int cm.L, .tup (cm.rows.map rowD), .tup (cm.marks.map D.int)] = true := valAll_im (valAll_iff.mpr vcs)
      refine wss_cons (ws_par 5 6 rfl sc.nd rfl rfl (by decide) rfl rfl (we_list (wa_pures (.cons (we_name 4 rfl rfl (.inl rfl) (⟨rfl, rfl⟩)) (.cons (we_frzL (we_callTy g_list (by decide +kernel) rfl (wa_cons (we_name 4 rfl rfl (.inl rfl) (wa_nil (wc_listT (⟨_, _, rfl, rfl, by first | exact Nat.le_refl _ | (simp; done) | omega, (dk_cl cells4 c4 (show 1 ≤ 2 by decide)), (ics), ⟨rfl, rfl⟩⟩))))))) (.cons (we_slice (we_name 4 rfl rfl (.inl rfl) (we_int (⟨_, rfl, wl_T (⟨rfl, rfl⟩)⟩)))) (.cons (we_bin (we_name 4 rfl rfl (.inl rfl) (we_tup (wa_cons (we_int (wa_nil ⟨show 1 ≤ sizeLine by decide, wo_addT ?_ (⟨rfl, rfl⟩)⟩)))))) (.cons (we_non (⟨rfl, rfl⟩)) (.cons (we_int (⟨rfl, rfl⟩)) (.cons (we_str (⟨rfl, rfl⟩)) (.cons (we_frzD (we_dict0 (⟨_, _, rfl, rfl, by first | exact Nat.le_refl _ | (simp; done) | omega, (dk_cl cells4 c4 (show 1 ≤ 2 by decide)), (rfl), ⟨rfl, rfl⟩⟩))) (.cons (we_tup (wa_nil ⟨show 0 ≤ sizeLine by decide, ⟨rfl, rfl⟩⟩)) (.cons (we_tup (wa_cons (we_int (wa_cons (we_tup (wa_nil ⟨show 0 ≤ sizeLine by decide, wa_cons (we_tup (wa_nil ⟨show 0 ≤ sizeLine by decide, wa_nil ⟨show 3 ≤ sizeLine by decide, ⟨rfl, rfl⟩⟩⟩))⟩)))))) (.cons (we_tup (wa_cons (we_int (wa_cons (we_tup (wa_cons (we_tup (wa_cons (we_int (wa_nil ⟨show 1 ≤ sizeLine by decide, wa_nil ⟨show 1 ≤ sizeLine by decide, wa_cons (we_tup (wa_cons (we_int (wa_nil ⟨show 1 ≤ sizeLine by decide, wa_nil ⟨show 3 ≤ sizeLine by decide, ⟨rfl, rfl⟩⟩⟩))))⟩⟩)))))))))) (.nil)))))))))))) ⟨show 11 ≤ sizeLine by decide, we_name 4 rfl rfl (.inl rfl) (?_)⟩)))
      · show 3 + 1 ≤ sizeLine; decide
      have c40 := ok4.cn
      have hv0 : ∀ x ∈ V0 cm, x.val = true ∧ x.szB 64 = true := by
        have e1 : (D.tup [.int cm.L, .tup (cm.rows.map rowD), .tup (cm.marks.map D.int)]).val = true := vcm
        have s1 := (sz_tup zcm).2
        have s2 : (D.tup (cm.rows.map rowD)).szB 64 = true := s1 _ (by simp)
        have s3 : (D.tup (cm.marks.map D.int)).szB 64 = true := s1 _ (by simp)
        have v2 : (D.tup (cm.rows.map rowD)).val = true := vcs _ (by simp)
        have v3 : (D.tup (cm.marks.map D.int)).val = true := vcs _ (by simp)
        intro x hx
        simp only [V0, List.mem_cons, List.not_mem_nil, or_false] at hx
        rcases hx with rfl | rfl | rfl | rfl | rfl | rfl | rfl | rfl | rfl | rfl | rfl
        · exact ⟨vcm, zcm⟩
        · exact ⟨val_mkL vcs, rfl⟩
        · exact ⟨val_mk fun d hd => vcs d (by simp at hd ⊢; rcases hd with rfl | rfl <;> simp), sz_mk (show 2 ≤ 64 by decide) fun d hd => s1 d (by simp at hd ⊢; rcases hd with rfl | rfl <;> simp)⟩
        · refine ⟨val_mk fun d hd => ?_, sz_mk (show 4 ≤ 64 by decide) fun d hd => ?_⟩
          · simp only [List.mem_cons, List.not_mem_nil, or_false] at hd
            rcases hd with rfl | rfl | rfl | rfl
            · rfl
            · exact v2
            · exact v3
            · rfl
          · simp only [List.mem_cons, List.not_mem_nil, or_false] at hd
            rcases hd with rfl | rfl | rfl | rfl
            · rfl
            · exact s2
            · exact s3
            · rfl
        all_goals exact ⟨rfl, rfl⟩
      show WSs _ _ _ [some (.rol (ns.map D.int)), some (.obj 1), none, none, some cm.d, some (.obj 2), some cm.d, none] (dk cells4 c4 ++ [.lst (V0 cm)]) _ _
      refine wss_cons (ws_for rfl PassesOwn.never (wi_range1 g_range rfl (we_int (⟨_, rfl, (by decide), (by decide), ?_⟩))))
      refine ⟨fun k ds m => ∃ (cells : List Int) (c : Int) (vs : List D) (v : D) (o7 : Option D), DkOk cells c ∧ c ≤ 10000 * i + 8000 + 41 * k ∧ ds = [some (.rol (ns.map D.int)), some (.obj 1), none, none, some cm.d, some (.obj 2), some v, o7] ∧ m = dk cells c ++ [.lst vs] ∧ (∀ x ∈ vs, x.val = true ∧ x.szB (64 + k) = true) ∧ v.val = true ∧ v.szB (64 + k) = true ∧ vs.length ≤ 11 + k, ⟨cells4, c4, V0 cm, cm.d, none, ok4, by omega, rfl, rfl, hv0, vcm, zcm, Nat.le_refl 11⟩, fun _ _ _ _ => trivial, ?_, ?_⟩
      · rintro k d ds m hk ⟨cells, c, vs, v, o7, ok, hb, rfl, rfl, hvs, vv, zv, hvl⟩
        obtain ⟨hk8, rfl⟩ := getE_range hk
        have hk8' : k < 8 := hk8
        refine wg_name 7 sc.nd rfl (.inl rfl) (.inl rfl) ?_
        refine wss_cons (ws_set 6 sc.nd rfl (.inl rfl) (.inl rfl) (we_callW D__law_otherwise (hr.mono (by omega)) hgd rfl (wa_cons (we_name 1 rfl rfl (.inl rfl) (wa_cons (we_ifExp (wt_cmp (we_bin (we_name 7 rfl rfl (.inl rfl) (we_int (wo_modI (by decide) (we_int (wo_gtI (⟨_, rfl, ⟨fun hk => we_name 6 rfl rfl (.inl rfl) (wa_cons (we_int (wa_nil ((⟨cells, c, _, _, rfl, rfl, ok, by first | exact im_iM vv | exact im_iM vcm, by show c + 40 ≤ 1099511627776; omega, ⟨_, 64 + k, rfl, by first | exact vv | exact vcm, by first | exact zv | exact szB_mono (by omega) zcm, by omega⟩, fun y cells2 c2 ok2 g1 g2 hp => ⟨val_im hp.1, (wss_one (ws_expr (we_bm PySem.F.plainAttrs_list PySem.F.slot_list_append PySem.F.type_list_append (we_name 5 rfl rfl (.inl rfl) (⟨(.inl ⟨rfl, _, (by first | rfl | exact VL.gL | assumption | exact VL.gA (by assumption) | exact VL.gA VL.gL | exact VL.gA (VL.gA (by assumption)) | exact VL.gM | exact VL.gA VL.gM | exact VL.gA (VL.gA VL.gL) | exact VL.gA (VL.gA (VL.gA VL.gL)) | exact VL.gD | exact VL.gA VL.gD | exact VL.gK (by assumption) | exact VL.gA (VL.gK (by assumption)) | exact VL.gA (VL.gA (VL.gK (by assumption))) | exact VL.gA (VL.gA (VL.gA (VL.gK (by assumption)))))⟩), wa_cons (we_name 6 rfl rfl (.inl rfl) (wa_nil (wm_append (by first | rfl | exact VL.gL | assumption | exact VL.gA (by assumption) | exact VL.gA VL.gL | exact VL.gA (VL.gA (by assumption)) | exact VL.gM | exact VL.gA VL.gM | exact VL.gA (VL.gA VL.gL) | exact VL.gA (VL.gA (VL.gA VL.gL)) | exact VL.gD | exact VL.gA VL.gD | exact VL.gK (by assumption) | exact VL.gA (VL.gK (by assumption)) | exact VL.gA (VL.gA (VL.gK (by assumption))) | exact VL.gA (VL.gA (VL.gA (VL.gK (by assumption))))) ?_ (?_))))⟩)))))⟩⟩))))), fun hk => we_name 4 rfl rfl (.inl rfl) (wa_cons (we_int (wa_nil ((⟨cells, c, _, _, rfl, rfl, ok, by first | exact im_iM vv | exact im_iM vcm, by show c + 40 ≤ 1099511627776; omega, ⟨_, 64 + k, rfl, by first | exact vv | exact vcm, by first | exact zv | exact szB_mono (by omega) zcm, by omega⟩, fun y cells2 c2 ok2 g1 g2 hp => ⟨val_im hp.1, (wss_one (ws_expr (we_bm PySem.F.plainAttrs_list PySem.F.slot_list_append PySem.F.type_list_append (we_name 5 rfl rfl (.inl rfl) (⟨(.inl ⟨rfl, _, (by first | rfl | exact VL.gL | assumption | exact VL.gA (by assumption) | exact VL.gA VL.gL | exact VL.gA (VL.gA (by assumption)) | exact VL.gM | exact VL.gA VL.gM | exact VL.gA (VL.gA VL.gL) | exact VL.gA (VL.gA (VL.gA VL.gL)) | exact VL.gD | exact VL.gA VL.gD | exact VL.gK (by assumption) | exact VL.gA (VL.gK (by assumption)) | exact VL.gA (VL.gA (VL.gK (by assumption))) | exact VL.gA (VL.gA (VL.gA (VL.gK (by assumption)))))⟩), wa_cons (we_name 6 rfl rfl (.inl rfl) (wa_nil (wm_append (by first | rfl | exact VL.gL | assumption | exact VL.gA (by assumption) | exact VL.gA VL.gL | exact VL.gA (VL.gA (by assumption)) | exact VL.gM | exact VL.gA VL.gM | exact VL.gA (VL.gA VL.gL) | exact VL.gA (VL.gA (VL.gA VL.gL)) | exact VL.gD | exact VL.gA VL.gD | exact VL.gK (by assumption) | exact VL.gA (VL.gK (by assumption)) | exact VL.gA (VL.gA (VL.gK (by assumption))) | exact VL.gA (VL.gA (VL.gA (VL.gK (by assumption))))) ?_ (?_))))⟩)))))⟩⟩)))))⟩⟩))))))))))))))
        · exact Nat.lt_of_lt_of_le (by omega : vs.length < 100) (by decide)
        · refine ⟨cells2, c2, vs ++ [y], y, _, ok2, by omega, rfl, rfl, fun x hx => ?_, hp.1, hp.2 _ (64 + k) rfl zv (by omega), by rw [List.length_append]; show _ + 1 ≤ _; omega⟩
          rcases List.mem_append.mp hx with z | z
          · exact ⟨(hvs x z).1, szB_mono (by omega) (hvs x z).2⟩
          · rw [List.mem_singleton.mp z]; exact ⟨hp.1, hp.2 _ (64 + k) rfl zv (by omega)⟩
        · exact Nat.lt_of_lt_of_le (by omega : vs.length < 100) (by decide)
        · refine ⟨cells2, c2, vs ++ [y], y, _, ok2, by omega, rfl, rfl, fun x hx => ?_, hp.1, hp.2 _ (64 + k) rfl (szB_mono (n := 64) (k := 64 + k) (by omega) zcm) (by omega), by rw [List.length_append]; show _ + 1 ≤ _; omega⟩
          rcases List.mem_append.mp hx with z | z
          · exact ⟨(hvs x z).1, szB_mono (by omega) (hvs x z).2⟩
          · rw [List.mem_singleton.mp z]; exact ⟨hp.1, hp.2 _ (64 + k) rfl (szB_mono (n := 64) (k := 64 + k) (by omega) zcm) (by omega)⟩
      · rintro ds m ⟨cells, c, vs, v, o7, ok, hb, rfl, rfl, hvs, vv, zv, hvl⟩
        have : ((List.range (Int.toNat 8)).map fun i => D.int (i : Nat)).length = 8 := rfl
        rw [this] at hb hvl hvs
        refine wss_one (ws_for rfl PassesOwn.never (wi_list (we_name 5 rfl rfl (.inl rfl) (⟨_, _, rfl, (by first | rfl | exact VL.gL | assumption | exact VL.gA (by assumption) | exact VL.gA VL.gL | exact VL.gA (VL.gA (by assumption)) | exact VL.gM | exact VL.gA VL.gM | exact VL.gA (VL.gA VL.gL) | exact VL.gA (VL.gA (VL.gA VL.gL)) | exact VL.gD | exact VL.gA VL.gD | exact VL.gK (by assumption) | exact VL.gA (VL.gK (by assumption)) | exact VL.gA (VL.gA (VL.gK (by assumption))) | exact VL.gA (VL.gA (VL.gA (VL.gK (by assumption))))), ?_⟩))))
        refine ⟨fun j ds m => ∃ (o6 : Option D) (rest : List Ob), ds = [some (.rol (ns.map D.int)), some (.obj 1), none, none, some cm.d, some (.obj 2), o6, o7] ∧ m = dk cells c ++ (.lst vs :: rest), ⟨_, [], rfl, rfl⟩, fun _ _ _ h => ?_, ?_, ?_⟩
        · obtain ⟨_, _, _, rfl⟩ := h
          rfl
        · rintro j d ds m hj ⟨o6, rest, rfl, rfl⟩
          obtain ⟨vd, zd⟩ := hvs d (List.mem_of_getElem? hj)
          have hsh := sh_err d 72 (by decide) zd
          refine wg_name 6 sc.nd rfl (.inl rfl) (.inl rfl) ?_
          refine wss_one (ws_if (wt_cmp (we_callB g_repr (by decide +kernel) rfl (wa_cons (we_callP D_comp_error (hr.mono (by omega)) hgd rfl (wa_cons (we_name 6 rfl rfl (.inl rfl) (wa_nil ((⟨im_i1 vd, _, ⟨d, vd, rfl, rfl⟩, errP_im _ _ ⟨d, vd, rfl, rfl⟩, (wa_nil ((wc_reprD hgd (hu70 hr) hsh (by decide) (by decide) (we_callB g_repr (by decide +kernel) rfl (wa_cons (we_callP D__law_due (hr.mono (by omega)) hgd rfl (wa_cons (we_name 6 rfl rfl (.inl rfl) (wa_nil ((⟨im_i1 vd, _, ⟨d, vd, rfl, rfl⟩, errP_im _ _ ⟨d, vd, rfl, rfl⟩, (wa_nil ((wc_reprD hgd (hu70 hr) hsh (by decide) (by decide) (wo_neS (⟨_, rfl, ⟨fun hk1 => False.elim ?_, fun hk1 => wss_nil (?_)⟩⟩)))))⟩)))))))))))⟩))))))))))
          · simp at hk1
          · exact ⟨_, rest, rfl, rfl⟩
        · rintro ds m ⟨o6, rest, rfl, rfl⟩
          exact ⟨cells, c, _, _, _, _, _, _, _, ok, by omega, rfl, rfl⟩
    · rintro ds m ⟨cells, c, o2, o3, o4, o5, o6, o7, rest, ok, hc, rfl, rfl⟩
      refine wss_one (ws_ret (we_bl (?_)))
      exact q _
end
theorem all_mk {P : Program} {w : World} {K : PySem.W.Frag} {h : Heap} {mg : Str → Option Value} {fa f0 f1 f2 f3 f4 f5 f6 f7 f8 f9 f10 f11 f12 f13 f14 : Addr} {t_END t_LETTERS t_MAX_LETTERS : Tok} (X : K.In h) (G : h.Ns mainGlobals mg) (hfa : mg "law" = some (.ref fa))
    {od0 an0 od1 an1 od2 an2 od3 an3 od4 an4 od5 an5 od6 an6 od7 an7 od8 an8 od9 an9 od10 an10 od11 an11 od12 an12 od13 an13 od14 an14 : Option Addr} {sl0 sl1 sl2 sl3 sl4 sl5 sl6 sl7 sl8 sl9 sl10 sl11 sl12 sl13 sl14 : Array (Option Value)} {oc0 kV0 dc0 pm0 cd0 ct0 oc1 kV1 dc1 pm1 cd1 ct1 oc2 kV2 dc2 pm2 cd2 ct2 oc3 kV3 dc3 pm3 cd3 ct3 oc4 kV4 dc4 pm4 cd4 ct4 oc5 kV5 dc5 pm5 cd5 ct5 oc6 kV6 dc6 pm6 cd6 ct6 oc7 kV7 dc7 pm7 cd7 ct7 oc8 kV8 dc8 pm8 cd8 ct8 oc9 kV9 dc9 pm9 cd9 ct9 oc10 kV10 dc10 pm10 cd10 ct10 oc11 kV11 dc11 pm11 cd11 ct11 oc12 kV12 dc12 pm12 cd12 ct12 oc13 kV13 dc13 pm13 cd13 ct13 oc14 kV14 dc14 pm14 cd14 ct14 : Value}
    (a0 : PySem.W.nsIn K mainGlobals "signs_of" = some (some (.ref f0)))
    (l0 : K.lookup f0 = some ⟨oc0, od0, .func (PySem.W.fnOf "signs_of" "signs_of" (defArgs s_signs_of) (defBody s_signs_of) (defScope s_signs_of) .none kV0 dc0 pm0 an0 cd0 ct0), sl0⟩)
    (c0 : PySem.W.codeIn K cd0 "signs_of" = true)
    (k0 : PySem.W.keepIn K (.ref f0) = true)
    (a1 : PySem.W.nsIn K mainGlobals "columns" = some (some (.ref f1)))
    (l1 : K.lookup f1 = some ⟨oc1, od1, .func (PySem.W.fnOf "columns" "columns" (defArgs s_columns) (defBody s_columns) (defScope s_columns) .none kV1 dc1 pm1 an1 cd1 ct1), sl1⟩)
    (c1 : PySem.W.codeIn K cd1 "columns" = true)
    (k1 : PySem.W.keepIn K (.ref f1) = true)
    (a2 : PySem.W.nsIn K mainGlobals "is_integer" = some (some (.ref f2)))
    (l2 : K.lookup f2 = some ⟨oc2, od2, .func (PySem.W.fnOf "is_integer" "is_integer" (defArgs s_is_integer) (defBody s_is_integer) (defScope s_is_integer) .none kV2 dc2 pm2 an2 cd2 ct2), sl2⟩)
    (c2 : PySem.W.codeIn K cd2 "is_integer" = true)
    (k2 : PySem.W.keepIn K (.ref f2) = true)
    (a3 : PySem.W.nsIn K mainGlobals "is_row" = some (some (.ref f3)))
    (l3 : K.lookup f3 = some ⟨oc3, od3, .func (PySem.W.fnOf "is_row" "is_row" (defArgs s_is_row) (defBody s_is_row) (defScope s_is_row) .none kV3 dc3 pm3 an3 cd3 ct3), sl3⟩)
    (c3 : PySem.W.codeIn K cd3 "is_row" = true)
    (k3 : PySem.W.keepIn K (.ref f3) = true)
    (a4 : PySem.W.nsIn K mainGlobals "are_verdicts" = some (some (.ref f4)))
    (l4 : K.lookup f4 = some ⟨oc4, od4, .func (PySem.W.fnOf "are_verdicts" "are_verdicts" (defArgs s_are_verdicts) (defBody s_are_verdicts) (defScope s_are_verdicts) .none kV4 dc4 pm4 an4 cd4 ct4), sl4⟩)
    (c4 : PySem.W.codeIn K cd4 "are_verdicts" = true)
    (k4 : PySem.W.keepIn K (.ref f4) = true)
    (a5 : PySem.W.nsIn K mainGlobals "comp_error" = some (some (.ref f5)))
    (l5 : K.lookup f5 = some ⟨oc5, od5, .func (PySem.W.fnOf "comp_error" "comp_error" (defArgs s_comp_error) (defBody s_comp_error) (defScope s_comp_error) .none kV5 dc5 pm5 an5 cd5 ct5), sl5⟩)
    (c5 : PySem.W.codeIn K cd5 "comp_error" = true)
    (k5 : PySem.W.keepIn K (.ref f5) = true)
    (a6 : PySem.W.nsIn K mainGlobals "_law_deck" = some (some (.ref f6)))
    (l6 : K.lookup f6 = some ⟨oc6, od6, .func (PySem.W.fnOf "_law_deck" "_law_deck" (defArgs s__law_deck) (defBody s__law_deck) (defScope s__law_deck) .none kV6 dc6 pm6 an6 cd6 ct6), sl6⟩)
    (c6 : PySem.W.codeIn K cd6 "_law_deck" = true)
    (k6 : PySem.W.keepIn K (.ref f6) = true)
    (a7 : PySem.W.nsIn K mainGlobals "_law_draw" = some (some (.ref f7)))
    (l7 : K.lookup f7 = some ⟨oc7, od7, .func (PySem.W.fnOf "_law_draw" "_law_draw" (defArgs s__law_draw) (defBody s__law_draw) (defScope s__law_draw) .none kV7 dc7 pm7 an7 cd7 ct7), sl7⟩)
    (c7 : PySem.W.codeIn K cd7 "_law_draw" = true)
    (k7 : PySem.W.keepIn K (.ref f7) = true)
    (a8 : PySem.W.nsIn K mainGlobals "_law_one" = some (some (.ref f8)))
    (l8 : K.lookup f8 = some ⟨oc8, od8, .func (PySem.W.fnOf "_law_one" "_law_one" (defArgs s__law_one) (defBody s__law_one) (defScope s__law_one) .none kV8 dc8 pm8 an8 cd8 ct8), sl8⟩)
    (c8 : PySem.W.codeIn K cd8 "_law_one" = true)
    (k8 : PySem.W.keepIn K (.ref f8) = true)
    (a9 : PySem.W.nsIn K mainGlobals "_law_columns" = some (some (.ref f9)))
    (l9 : K.lookup f9 = some ⟨oc9, od9, .func (PySem.W.fnOf "_law_columns" "_law_columns" (defArgs s__law_columns) (defBody s__law_columns) (defScope s__law_columns) .none kV9 dc9 pm9 an9 cd9 ct9), sl9⟩)
    (c9 : PySem.W.codeIn K cd9 "_law_columns" = true)
    (k9 : PySem.W.keepIn K (.ref f9) = true)
    (a10 : PySem.W.nsIn K mainGlobals "_law_comp" = some (some (.ref f10)))
    (l10 : K.lookup f10 = some ⟨oc10, od10, .func (PySem.W.fnOf "_law_comp" "_law_comp" (defArgs s__law_comp) (defBody s__law_comp) (defScope s__law_comp) .none kV10 dc10 pm10 an10 cd10 ct10), sl10⟩)
    (c10 : PySem.W.codeIn K cd10 "_law_comp" = true)
    (k10 : PySem.W.keepIn K (.ref f10) = true)
    (a11 : PySem.W.nsIn K mainGlobals "_law_whole" = some (some (.ref f11)))
    (l11 : K.lookup f11 = some ⟨oc11, od11, .func (PySem.W.fnOf "_law_whole" "_law_whole" (defArgs s__law_whole) (defBody s__law_whole) (defScope s__law_whole) .none kV11 dc11 pm11 an11 cd11 ct11), sl11⟩)
    (c11 : PySem.W.codeIn K cd11 "_law_whole" = true)
    (k11 : PySem.W.keepIn K (.ref f11) = true)
    (a12 : PySem.W.nsIn K mainGlobals "_law_due" = some (some (.ref f12)))
    (l12 : K.lookup f12 = some ⟨oc12, od12, .func (PySem.W.fnOf "_law_due" "_law_due" (defArgs s__law_due) (defBody s__law_due) (defScope s__law_due) .none kV12 dc12 pm12 an12 cd12 ct12), sl12⟩)
    (c12 : PySem.W.codeIn K cd12 "_law_due" = true)
    (k12 : PySem.W.keepIn K (.ref f12) = true)
    (a13 : PySem.W.nsIn K mainGlobals "_law_otherwise" = some (some (.ref f13)))
    (l13 : K.lookup f13 = some ⟨oc13, od13, .func (PySem.W.fnOf "_law_otherwise" "_law_otherwise" (defArgs s__law_otherwise) (defBody s__law_otherwise) (defScope s__law_otherwise) .none kV13 dc13 pm13 an13 cd13 ct13), sl13⟩)
    (c13 : PySem.W.codeIn K cd13 "_law_otherwise" = true)
    (k13 : PySem.W.keepIn K (.ref f13) = true)
    (a14 : PySem.W.nsIn K mainGlobals "law" = some (some (.ref f14)))
    (l14 : K.lookup f14 = some ⟨oc14, od14, .func (PySem.W.fnOf "law" "law" (defArgs s_law) (defBody s_law) (defScope s_law) .none kV14 dc14 pm14 an14 cd14 ct14), sl14⟩)
    (c14 : PySem.W.codeIn K cd14 "law" = true)
    (k14 : PySem.W.keepIn K (.ref f14) = true)
    (g_END : PySem.W.nsIn K mainGlobals "END" = some (some (.str "." t_END)))
    (g_LETTERS : PySem.W.nsIn K mainGlobals "LETTERS" = some (some (.str "abc" t_LETTERS)))
    (g_MAX_LETTERS : PySem.W.nsIn K mainGlobals "MAX_LETTERS" = some (some (.int 3 t_MAX_LETTERS)))
    (g_abs : PySem.W.nsIn K mainGlobals "abs" = some none)
    (g_bool : PySem.W.nsIn K mainGlobals "bool" = some none)
    (g_enumerate : PySem.W.nsIn K mainGlobals "enumerate" = some none)
    (g_int : PySem.W.nsIn K mainGlobals "int" = some none)
    (g_isinstance : PySem.W.nsIn K mainGlobals "isinstance" = some none)
    (g_len : PySem.W.nsIn K mainGlobals "len" = some none)
    (g_list : PySem.W.nsIn K mainGlobals "list" = some none)
    (g_max : PySem.W.nsIn K mainGlobals "max" = some none)
    (g_range : PySem.W.nsIn K mainGlobals "range" = some none)
    (g_repr : PySem.W.nsIn K mainGlobals "repr" = some none)
    (g_tuple : PySem.W.nsIn K mainGlobals "tuple" = some none)
    : ∃ fd : FuncData, (∀ (s : Shared) (v : Value), BindsTo s fd ⟨[v], []⟩ [("_law_script", v)]) ∧ ∀ base : Heap, K.In base → base.Ns mainGlobals mg → FnG P w K mg base 7 fa fd ["_law_script"] (spOf K v_law) := by
  have e := hfa.symm.trans (PySem.W.mg_of X G a14)
  cases e
  have T : Txt K mg t_END t_LETTERS t_MAX_LETTERS := ⟨PySem.W.mg_of X G g_END, PySem.W.mg_of X G g_LETTERS, PySem.W.mg_of X G g_MAX_LETTERS, PySem.W.mg_none_of X G g_abs, PySem.W.mg_none_of X G g_bool, PySem.W.mg_none_of X G g_enumerate, PySem.W.mg_none_of X G g_int, PySem.W.mg_none_of X G g_isinstance, PySem.W.mg_none_of X G g_len, PySem.W.mg_none_of X G g_list, PySem.W.mg_none_of X G g_max, PySem.W.mg_none_of X G g_range, PySem.W.mg_none_of X G g_repr, PySem.W.mg_none_of X G g_tuple⟩
  have F0 := fun_mk (st := s_signs_of) l0 c0 k0
  have F1 := fun_mk (st := s_columns) l1 c1 k1
  have F2 := fun_mk (st := s_is_integer) l2 c2 k2
  have F3 := fun_mk (st := s_is_row) l3 c3 k3
  have F4 := fun_mk (st := s_are_verdicts) l4 c4 k4
  have F5 := fun_mk (st := s_comp_error) l5 c5 k5
  have F6 := fun_mk (st := s__law_deck) l6 c6 k6
  have F7 := fun_mk (st := s__law_draw) l7 c7 k7
  have F8 := fun_mk (st := s__law_one) l8 c8 k8
  have F9 := fun_mk (st := s__law_columns) l9 c9 k9
  have F10 := fun_mk (st := s__law_comp) l10 c10 k10
  have F11 := fun_mk (st := s__law_whole) l11 c11 k11
  have F12 := fun_mk (st := s__law_due) l12 c12 k12
  have F13 := fun_mk (st := s__law_otherwise) l13 c13 k13
  have F14 := fun_mk (st := s_law) l14 c14 k14
  refine ⟨_, fun s v => BindsTo.of_eq (fd := PySem.W.fnOf "law" "law" (defArgs s_law) (defBody s_law) (defScope s_law) .none kV14 dc14 pm14 an14 cd14 ct14) rfl, fun base _ _ => ?_⟩
  have D_signs_of : Dc P w K mg base 1 "signs_of" ["letters"] v_signs_of := dc_mk F0 (ok_signs_of F0 T) (PySem.W.mg_of X G a0) (fun _ _ _ _ _ _ us hl => match us, hl with | [_], _ => rfl)
  have D_columns : Dc P w K mg base 2 "columns" ["letters"] v_columns := dc_mk F1 (ok_columns F1 T D_signs_of) (PySem.W.mg_of X G a1) (fun _ _ _ _ _ _ us hl => match us, hl with | [_], _ => rfl)
  have D_is_integer : Dc P w K mg base 1 "is_integer" ["value", "least", "most"] v_is_integer := dc_mk F2 (ok_is_integer F2 T) (PySem.W.mg_of X G a2) (fun _ _ _ _ _ _ us hl => match us, hl with | [_, _, _], _ => rfl)
  have D_is_row : Dc P w K mg base 3 "is_row" ["value", "letters", "states"] v_is_row := dc_mk F3 (ok_is_row F3 T D_columns D_is_integer) (PySem.W.mg_of X G a3) (fun _ _ _ _ _ _ us hl => match us, hl with | [_, _, _], _ => rfl)
  have D_are_verdicts : Dc P w K mg base 2 "are_verdicts" ["value", "states"] v_are_verdicts := dc_mk F4 (ok_are_verdicts F4 T D_is_integer) (PySem.W.mg_of X G a4) (fun _ _ _ _ _ _ us hl => match us, hl with | [_, _], _ => rfl)
  have D_comp_error : Dc P w K mg base 4 "comp_error" ["value"] v_comp_error := dc_mk F5 (ok_comp_error F5 T D_is_integer D_are_verdicts D_is_row) (PySem.W.mg_of X G a5) (fun _ _ _ _ _ _ us hl => match us, hl with | [_], _ => rfl)
  have D__law_deck : Dc P w K mg base 1 "_law_deck" ["_law_script"] v__law_deck := dc_mk F6 (ok__law_deck F6 T) (PySem.W.mg_of X G a6) (fun _ _ _ _ _ _ us hl => match us, hl with | [_], _ => rfl)
  have D__law_draw : Dc P w K mg base 1 "_law_draw" ["_law_deck_here", "_law_most"] v__law_draw := dc_mk F7 (ok__law_draw F7 T) (PySem.W.mg_of X G a7) (fun _ _ _ _ _ _ us hl => match us, hl with | [_, _], _ => rfl)
  have D__law_one : Dc P w K mg base 2 "_law_one" ["_law_deck_here", "_law_items"] v__law_one := dc_mk F8 (ok__law_one F8 T D__law_draw) (PySem.W.mg_of X G a8) (fun _ _ _ _ _ _ us hl => match us, hl with | [_, _], _ => rfl)
  have D__law_columns : Dc P w K mg base 1 "_law_columns" ["_law_letters"] v__law_columns := dc_mk F9 (ok__law_columns F9 T) (PySem.W.mg_of X G a9) (fun _ _ _ _ _ _ us hl => match us, hl with | [_], _ => rfl)
  have D__law_comp : Dc P w K mg base 3 "_law_comp" ["_law_deck_here", "_law_letters", "_law_states"] v__law_comp := dc_mk F10 (ok__law_comp F10 T D__law_draw D__law_one D__law_columns) (PySem.W.mg_of X G a10) (fun _ _ _ _ _ _ us hl => match us, hl with | [_, _, _], _ => rfl)
  have D__law_whole : Dc P w K mg base 1 "_law_whole" ["_law_value", "_law_least", "_law_most"] v__law_whole := dc_mk F11 (ok__law_whole F11 T) (PySem.W.mg_of X G a11) (fun _ _ _ _ _ _ us hl => match us, hl with | [_, _, _], _ => rfl)
  have D__law_due : Dc P w K mg base 2 "_law_due" ["_law_value"] v__law_due := dc_mk F12 (ok__law_due F12 T D__law_whole D__law_columns) (PySem.W.mg_of X G a12) (fun _ _ _ _ _ _ us hl => match us, hl with | [_], _ => rfl)
  have DA__law_otherwise : ∀ rk, Dc P w K mg base (rk + 3) "_law_otherwise" ["_law_deck_here", "_law_value", "_law_deep"] (v__law_otherwise rk) := fun rk => Nat.strongRecOn rk fun rk ih => dc_mk F13 (ok__law_otherwise rk F13 T D__law_one D__law_draw ih) (PySem.W.mg_of X G a13) (fun _ _ _ _ _ _ us hl => match us, hl with | [_, _, _], _ => rfl)
  have D__law_otherwise : Dc P w K mg base 6 "_law_otherwise" ["_law_deck_here", "_law_value", "_law_deep"] (v__law_otherwise 3) := DA__law_otherwise 3
  exact ok_law F14 T D__law_deck D__law_comp D_columns D__law_otherwise D__law_columns D__law_draw D__law_one D_comp_error D__law_due
end My
open PySem PySem.W PyProof.Rows
set_option maxHeartbeats 0 in
theorem PySem.Challenge.cw_surelyorders_k35_comparisons_with_errors_holds : PySem.Challenge.rw_surelyorders_k35_comparisons_with_errors.Holds := by
  w_on; o_law; k_head; (case hw => w_witness2)
  k_fill
  refine VL.walkG (l := PySem.Challenge.rw_surelyorders_k35_comparisons_with_errors) (n := 63) (k := 7) (x := "_law_script") (sp := fun w => VL.spOf _ My.v_law) rfl (by decide) rfl ⟨rfl, by decide, by decide⟩ (fun w h Y => PySem.W.kIn_of Y) ?F (fun _ _ a ns hl hS => VL.lawV_sp hl hS)
  case F =>
    intro w mg fa h KX G hmg
    refine' My.all_mk KX G hmg ?a0 ?l0 ?c0 ?k0 ?a1 ?l1 ?c1 ?k1 ?a2 ?l2 ?c2 ?k2 ?a3 ?l3 ?c3 ?k3 ?a4 ?l4 ?c4 ?k4 ?a5 ?l5 ?c5 ?k5 ?a6 ?l6 ?c6 ?k6 ?a7 ?l7 ?c7 ?k7 ?a8 ?l8 ?c8 ?k8 ?a9 ?l9 ?c9 ?k9 ?a10 ?l10 ?c10 ?k10 ?a11 ?l11 ?c11 ?k11 ?a12 ?l12 ?c12 ?k12 ?a13 ?l13 ?c13 ?k13 ?a14 ?l14 ?c14 ?k14 ?g_END ?g_LETTERS ?g_MAX_LETTERS ?g_abs ?g_bool ?g_enumerate ?g_int ?g_isinstance ?g_len ?g_list ?g_max ?g_range ?g_repr ?g_tuple
    (case a0 => k_is)
    (case l0 => k_is)
    (case c0 => k_is)
    (case k0 => k_is)
    (case a1 => k_is)
    (case l1 => k_is)
    (case c1 => k_is)
    (case k1 => k_is)
    (case a2 => k_is)
    (case l2 => k_is)
    (case c2 => k_is)
    (case k2 => k_is)
    (case a3 => k_is)
    (case l3 => k_is)
    (case c3 => k_is)
    (case k3 => k_is)
    (case a4 => k_is)
    (case l4 => k_is)
    (case c4 => k_is)
    (case k4 => k_is)
    (case a5 => k_is)
    (case l5 => k_is)
    (case c5 => k_is)
    (case k5 => k_is)
    (case a6 => k_is)
    (case l6 => k_is)
    (case c6 => k_is)
    (case k6 => k_is)
    (case a7 => k_is)
    (case l7 => k_is)
    (case c7 => k_is)
    (case k7 => k_is)
    (case a8 => k_is)
    (case l8 => k_is)
    (case c8 => k_is)
    (case k8 => k_is)
    (case a9 => k_is)
    (case l9 => k_is)
    (case c9 => k_is)
    (case k9 => k_is)
    (case a10 => k_is)
    (case l10 => k_is)
    (case c10 => k_is)
    (case k10 => k_is)
    (case a11 => k_is)
    (case l11 => k_is)
    (case c11 => k_is)
    (case k11 => k_is)
    (case a12 => k_is)
    (case l12 => k_is)
    (case c12 => k_is)
    (case k12 => k_is)
    (case a13 => k_is)
    (case l13 => k_is)
    (case c13 => k_is)
    (case k13 => k_is)
    (case a14 => k_is)
    (case l14 => k_is)
    (case c14 => k_is)
    (case k14 => k_is)
    (case g_END => k_is)
    (case g_LETTERS => k_is)
    (case g_MAX_LETTERS => k_is)
    (case g_abs => k_is)
    (case g_bool => k_is)
    (case g_enumerate => k_is)
    (case g_int => k_is)
    (case g_isinstance => k_is)
    (case g_len => k_is)
    (case g_list => k_is)
    (case g_max => k_is)
    (case g_range => k_is)
    (case g_repr => k_is)
    (case g_tuple => k_is)


