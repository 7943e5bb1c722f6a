import PyProof.Rows.All
import Wide.All
import OpenK.AllK
import Wide.FinOn
import HandS.ForMost
import HandS.Walk
import HandS.Wide
import HandS.StrMore
import HandS.Style
import HandS.TupAny
import HandS.DictComp
import HandS.Flow
import KE.GoesEnum
import PyProof.ReprRoads
import PyProof.CallFns
import KE.KUnpack
import HandS.IsInst
import PyProof.NeKinds
import KE.KRevSl
import PyProof.SliceStr2
import HandS.TupMul
import HandS.Strs
import HandS.NoneIn
import HandS.Exc
import HandS.TryMany
import HandS.ExcInit
import HandS.WordsExc
import HandS.ExcField
import KE.KTryMore
import HandS.Conv
import HandS.Small
import KE.KDictZip
import KE.GoesZip
import KE.GoesMore
import KE.DataCmp
import KE.SortData
import HandS.Replace
import HandS.ReplaceLit
import PySem.Challenge.RW_surelyorders_k17_long_texts
set_option Elab.async false
set_option linter.all false
set_option maxRecDepth 100000
set_option maxHeartbeats 4000000
namespace VL
open PySem PySem.Spec PyProof.Rows L2
abbrev St := L2.St

/-! ## data -/
inductive D where
  | non | bl (b : Bool) | int (i : Int) | str (x : Str) | tup (ds : List D) | rol (ds : List D) | rod (ks : List Key) (ds : List D) | obj (k : Nat) | ref (a : Addr) | ty (n : String)

/-- a list that is only read and never changes -/
def SqLi (K : PySem.W.Frag) (H : Hp) (a : Addr) (xs : List V) : Prop :=
  (∃ o, H a = some (.frz o (.lst xs))) ∨
    ∃ (o : Obj) (its : Array Value) (n : Nat), K.lookup a = some o ∧ o.cls = .type "list" ∧ o.dict = none ∧ o.data = .seq its n ∧ its.size ≤ sizeLine ∧ Vals xs its.toList ∧ o.slots = #[]
theorem SqLi.sq {K : PySem.W.Frag} {H : Hp} {a : Addr} {xs : List V} (h : SqLi K H a xs) : SqL K H a xs := h.elim (fun z => .inl (.inr z)) fun ⟨o, its, n, h1, h2, h3, h4, h5, h6, _⟩ => .inr ⟨o, its, n, h1, h2, h3, h4, h5, h6⟩

mutual
def Rep (K : PySem.W.Frag) (θ : List Addr) (H : Hp) : D → V → Prop
  | .non, v => v = .non
  | .bl b, v => v = .bl b
  | .int i, v => v = .int i
  | .str x, v => v = .str x
  | .tup ds, v => ∃ a vs, v = .ref a ∧ SqT K H a vs ∧ Reps K θ H ds vs
  | .rol ds, v => ∃ a vs, v = .ref a ∧ SqLi K H a vs ∧ Reps K θ H ds vs
  | .rod ks ds, v => ∃ a vs, v = .ref a ∧ (∃ o, H a = some (.frz o (.dK (ks.zip vs)))) ∧ ks.length = ds.length ∧ Reps K θ H ds vs
  | .obj k, v => ∃ a, θ[k]? = some a ∧ v = .ref a
  | .ref a, v => v = .ref a
  | .ty n, v => v = .ty n
def Reps (K : PySem.W.Frag) (θ : List Addr) (H : Hp) : List D → List V → Prop
  | [], vs => vs = []
  | d :: ds, vs => ∃ v vs', vs = v :: vs' ∧ Rep K θ H d v ∧ Reps K θ H ds vs'
end

/-- what never changes once it stands -/
def imm : HO → Bool
  | .tup _ => true
  | .frz _ (.lst _) => true
  | .frz _ (.tup _) => true
  | .frz _ (.dK _) => true
  | .own _ => true
  | .met _ _ => true
  | .rng _ _ => true
  | _ => false
def ImmP (H H' : Hp) : Prop := ∀ a o, H a = some o → imm o = true → H' a = some o
theorem ImmP.refl (H : Hp) : ImmP H H := fun _ _ h _ => h
theorem ImmP.trans {H H1 H2 : Hp} (a : ImmP H H1) (b : ImmP H1 H2) : ImmP H H2 := fun c o h i => b c o (a c o h i) i
theorem ImmP.new {H : Hp} {p : Addr} {o : HO} (h : H p = none) : ImmP H (upd H p o) := fun a u e _ => by
  rw [upd_ne (ne_of_none e h)]; exact e
theorem ImmP.mut {H : Hp} {p : Addr} {o u : HO} (h : H p = some o) (hi : imm o = false) : ImmP H (upd H p u) := fun a w e i => by
  have : a ≠ p := by
    rintro rfl
    rw [h] at e
    cases e
    rw [hi] at i
    cases i
  rw [upd_ne this]; exact e
theorem ImmP.sqt {K : PySem.W.Frag} {H H' : Hp} (m : ImmP H H') {a : Addr} {xs : List V} (h : SqT K H a xs) : SqT K H' a xs := by
  rcases h with (h | ⟨o, h⟩) | h
  · exact .inl (.inl (m _ _ h rfl))
  · exact .inl (.inr ⟨o, m _ _ h rfl⟩)
  · exact .inr h
theorem ImmP.sqli {K : PySem.W.Frag} {H H' : Hp} (m : ImmP H H') {a : Addr} {xs : List V} (h : SqLi K H a xs) : SqLi K H' a xs := by
  rcases h with ⟨o, h⟩ | h
  · exact .inl ⟨o, m _ _ h rfl⟩
  · exact .inr h

/-- the places of the one go on in the other -/
def Le (θ θ' : List Addr) : Prop := ∀ (k : Nat) (a : Addr), θ[k]? = some a → θ'[k]? = some a
theorem Le.refl (θ : List Addr) : Le θ θ := fun _ _ h => h
theorem Le.trans {θ θ' θ'' : List Addr} (a : Le θ θ') (b : Le θ' θ'') : Le θ θ'' := fun k x h => b k x (a k x h)
theorem Le.app (θ more : List Addr) : Le θ (θ ++ more) := fun k a h => by
  rw [List.getElem?_append_left (List.getElem?_eq_some_iff.mp h).1]; exact h

section
variable {K : PySem.W.Frag} {θ θ' : List Addr} {H H' : Hp}
mutual
theorem Rep.mono (hθ : Le θ θ') (m : ImmP H H') : ∀ (d : D) (v : V), Rep K θ H d v → Rep K θ' H' d v
  | .non, _, h => by unfold Rep at *; exact h
  | .bl _, _, h => by unfold Rep at *; exact h
  | .int _, _, h => by unfold Rep at *; exact h
  | .str _, _, h => by unfold Rep at *; exact h
  | .ref _, _, h => by unfold Rep at *; exact h
  | .ty _, _, h => by unfold Rep at *; exact h
  | .obj k, _, h => by
    unfold Rep at *
    obtain ⟨a, e, r⟩ := h
    exact ⟨a, hθ k a e, r⟩
  | .tup ds, _, h => by
    unfold Rep at *
    obtain ⟨a, vs, e, s, r⟩ := h
    exact ⟨a, vs, e, m.sqt s, Reps.mono hθ m ds vs r⟩
  | .rol ds, _, h => by
    unfold Rep at *
    obtain ⟨a, vs, e, s, r⟩ := h
    exact ⟨a, vs, e, m.sqli s, Reps.mono hθ m ds vs r⟩
  | .rod ks ds, _, h => by
    unfold Rep at *
    obtain ⟨a, vs, e, ⟨o, s⟩, l, r⟩ := h
    exact ⟨a, vs, e, ⟨o, m _ _ s rfl⟩, l, Reps.mono hθ m ds vs r⟩
theorem Reps.mono (hθ : Le θ θ') (m : ImmP H H') : ∀ (ds : List D) (vs : List V), Reps K θ H ds vs → Reps K θ' H' ds vs
  | [], _, h => by unfold Reps at *; exact h
  | d :: ds, _, h => by
    unfold Reps at *
    obtain ⟨v, vs', e, r, rs⟩ := h
    exact ⟨v, vs', e, Rep.mono hθ m d v r, Reps.mono hθ m ds vs' rs⟩
end
end

/-! ## the store -/
inductive Ob where
  | lst (ds : List D)
  | dK (kvs : List (Key × D))
  | dT (kvs : List (List Key × D))
  | ins (c : Str) (fs : List (Str × D))

def RepKV {κ : Type} (K : PySem.W.Frag) (θ : List Addr) (H : Hp) : List (κ × D) → List (κ × V) → Prop
  | [], vs => vs = []
  | (k, d) :: r, vs => ∃ v vs', vs = (k, v) :: vs' ∧ Rep K θ H d v ∧ RepKV K θ H r vs'
theorem RepKV.mono {κ : Type} {K : PySem.W.Frag} {θ θ' : List Addr} {H H' : Hp} (hθ : Le θ θ') (m : ImmP H H') : ∀ (ds : List (κ × D)) (vs : List (κ × V)), RepKV K θ H ds vs → RepKV K θ' H' ds vs
  | [], _, h => h
  | (k, d) :: ds, _, h => by
    obtain ⟨v, vs', e, r, rs⟩ := h
    exact ⟨v, vs', e, Rep.mono hθ m d v r, RepKV.mono hθ m ds vs' rs⟩

/-- the class of that name -/
def ClsN (K : PySem.W.Frag) (c : Str) (C : Addr) : Prop := PySem.W.nsIn K mainGlobals c = some (some (.ref C))
theorem ClsN.inj {K : PySem.W.Frag} {c : Str} {C C' : Addr} (h : ClsN K c C) (h' : ClsN K c C') : C = C' := by
  unfold ClsN at h h'
  rw [h] at h'
  cases h'; rfl
def ObR (K : PySem.W.Frag) (θ : List Addr) (H : Hp) (a : Addr) : Ob → Prop
  | .lst ds => ∃ vs, H a = some (.lst vs) ∧ Reps K θ H ds vs
  | .dK kvs => ∃ vs, H a = some (.dK vs) ∧ RepKV K θ H kvs vs
  | .dT kvs => ∃ vs, H a = some (.dT vs) ∧ RepKV K θ H kvs vs
  | .ins c fs => ∃ C dx vs, ClsN K c C ∧ H a = some (.ins C dx vs) ∧ RepKV K θ H fs vs
theorem ObR.some {K : PySem.W.Frag} {θ : List Addr} {H : Hp} {a : Addr} : ∀ {ob : Ob}, ObR K θ H a ob → ∃ o, H a = some o ∧ imm o = false
  | .lst _, ⟨_, h, _⟩ => ⟨_, h, rfl⟩
  | .dK _, ⟨_, h, _⟩ => ⟨_, h, rfl⟩
  | .dT _, ⟨_, h, _⟩ => ⟨_, h, rfl⟩
  | .ins _ _, ⟨_, _, _, _, h, _⟩ => ⟨_, h, rfl⟩
/-- an object that is not touched -/
theorem ObR.keep {K : PySem.W.Frag} {θ θ' : List Addr} {H H' : Hp} {a : Addr} (hθ : Le θ θ') (m : ImmP H H') (e : H' a = H a) : ∀ {ob : Ob}, ObR K θ H a ob → ObR K θ' H' a ob
  | .lst _, ⟨vs, h, r⟩ => ⟨vs, e.trans h, Reps.mono hθ m _ _ r⟩
  | .dK _, ⟨vs, h, r⟩ => ⟨vs, e.trans h, RepKV.mono hθ m _ _ r⟩
  | .dT _, ⟨vs, h, r⟩ => ⟨vs, e.trans h, RepKV.mono hθ m _ _ r⟩
  | .ins _ _, ⟨C, dx, vs, n, h, r⟩ => ⟨C, dx, vs, n, e.trans h, RepKV.mono hθ m _ _ r⟩

structure Bs where
  H0 : Hp
  T0 : List Addr

structure Sat (K : PySem.W.Frag) (B : Bs) (θ : List Addr) (ms : List Ob) (H : Hp) : Prop where
  len : θ.length = ms.length
  nd : θ.Nodup
  obs : ∀ (k : Nat) (ob : Ob) (a : Addr), ms[k]? = some ob → θ[k]? = some a → ObR K θ H a ob
  keep : ∀ b o, B.H0 b = some o → b ∉ B.T0 → H b = some o
  new : ∀ a ∈ θ, a ∈ B.T0 ∨ B.H0 a = none

section
variable {K : PySem.W.Frag} {B : Bs} {θ : List Addr} {ms : List Ob} {H H' : Hp}
theorem Sat.at (S : Sat K B θ ms H) {k : Nat} {ob : Ob} (h : ms[k]? = some ob) : ∃ a, θ[k]? = some a ∧ ObR K θ H a ob := by
  have hk : k < θ.length := by rw [S.len]; exact (List.getElem?_eq_some_iff.mp h).1
  have e : θ[k]? = some θ[k] := List.getElem?_eq_getElem hk
  exact ⟨θ[k], e, S.obs k ob _ h e⟩
theorem Sat.tracked (S : Sat K B θ ms H) {a : Addr} (h : a ∈ θ) : ∃ o, H a = some o ∧ imm o = false := by
  obtain ⟨k, hk, e⟩ := List.getElem_of_mem h
  have h1 : k < ms.length := by rw [← S.len]; exact hk
  exact (S.obs k ms[k] a (List.getElem?_eq_getElem h1) (by rw [List.getElem?_eq_getElem hk, e])).some
theorem Sat.notIn (S : Sat K B θ ms H) {p : Addr} (h : H p = none) : p ∉ θ := fun z => by
  obtain ⟨o, e, _⟩ := S.tracked z
  rw [h] at e; cases e
/-- something new that is no object of the store (a tuple) -/
theorem Sat.fresh (S : Sat K B θ ms H) {p : Addr} {o : HO} (h : H p = none) : Sat K B θ ms (upd H p o) where
  len := S.len
  nd := S.nd
  obs := fun k ob a h1 h2 => (S.obs k ob a h1 h2).keep (Le.refl _) (ImmP.new h) (by
    rw [upd_ne]
    rintro rfl
    exact S.notIn h (List.mem_of_getElem? h2))
  keep := fun b u e n => by rw [upd_ne (ne_of_none (S.keep b u e n) h)]; exact S.keep b u e n
  new := S.new
/-- a new object of the store -/
theorem Sat.alloc (S : Sat K B θ ms H) {p : Addr} {o : HO} {ob : Ob} (h : H p = none) (hob : ObR K (θ ++ [p]) (upd H p o) p ob) : Sat K B (θ ++ [p]) (ms ++ [ob]) (upd H p o) where
  len := by simp [S.len]
  nd := by
    refine List.nodup_append.mpr ⟨S.nd, by simp, fun a ha b hb e => ?_⟩
    have : b = p := by simpa using hb
    subst this; subst e
    exact S.notIn h ha
  obs := fun k ob' a h1 h2 => by
    by_cases hk : k < ms.length
    · rw [List.getElem?_append_left hk] at h1
      rw [List.getElem?_append_left (by rw [S.len]; exact hk)] at h2
      refine (S.obs k ob' a h1 h2).keep (Le.app _ _) (ImmP.new h) ?_
      rw [upd_ne]
      rintro rfl
      exact S.notIn h (List.mem_of_getElem? h2)
    · have hk' : k = ms.length := by
        have := (List.getElem?_eq_some_iff.mp h1).1
        simp at this; omega
      subst hk'
      rw [← S.len] at h2
      simp at h1 h2
      subst h1; subst h2
      exact hob
  keep := fun b u e n => by rw [upd_ne (ne_of_none (S.keep b u e n) h)]; exact S.keep b u e n
  new := fun a ha => by
    rcases List.mem_append.mp ha with z | z
    · exact S.new a z
    · have : a = p := by simpa using z
      subst this
      by_cases hT : a ∈ B.T0
      · exact .inl hT
      · right
        cases q : B.H0 a with
        | none => rfl
        | some o => rw [S.keep a o q hT] at h; cases h
/-- an object of the store is changed -/
theorem Sat.write (S : Sat K B θ ms H) {k : Nat} {a : Addr} {o : HO} {ob : Ob} (hk : θ[k]? = some a) (hob : ObR K θ (upd H a o) a ob) : Sat K B θ (ms.set k ob) (upd H a o) ∧ ImmP H (upd H a o) := by
  have hm : a ∈ θ := List.mem_of_getElem? hk
  obtain ⟨u, hu, hi⟩ := S.tracked hm
  have im : ImmP H (upd H a o) := ImmP.mut hu hi
  refine ⟨⟨by simp [S.len], S.nd, fun j ob' b h1 h2 => ?_, fun b u e n => ?_, S.new⟩, im⟩
  · by_cases hj : j = k
    · subst hj
      rw [hk] at h2; cases h2
      have hl : j < ms.length := by have := (List.getElem?_eq_some_iff.mp h1).1; simpa using this
      rw [List.getElem?_set_self hl] at h1
      cases h1
      exact hob
    · rw [List.getElem?_set_ne (Ne.symm hj)] at h1
      refine (S.obs j ob' b h1 h2).keep (Le.refl _) im ?_
      rw [upd_ne]
      rintro rfl
      obtain ⟨l1, e1⟩ := List.getElem?_eq_some_iff.mp h2
      obtain ⟨l2, e2⟩ := List.getElem?_eq_some_iff.mp hk
      exact hj ((List.getElem_inj S.nd).mp (e1.trans e2.symm))
  · have hb : b ≠ a := by
      rintro rfl
      rcases S.new b hm with z | z
      · exact n z
      · rw [e] at z; cases z
    rw [upd_ne hb]; exact S.keep b u e n
end

/-- the slots -/
structure Slr (K : PySem.W.Frag) (θ : List Addr) (H : Hp) (ds : List (Option D)) (σ : St) : Prop where
  len : ds.length = σ.length
  at_ : ∀ (i : Nat) (d : D), ds[i]? = some (some d) → ∃ v, σ[i]? = some (some v) ∧ Rep K θ H d v
theorem Slr.mono {K : PySem.W.Frag} {θ θ' : List Addr} {H H' : Hp} {ds : List (Option D)} {σ : St} (S : Slr K θ H ds σ) (hθ : Le θ θ') (m : ImmP H H') : Slr K θ' H' ds σ :=
  ⟨S.len, fun i d h => let ⟨v, e, r⟩ := S.at_ i d h; ⟨v, e, Rep.mono hθ m d v r⟩⟩
theorem Slr.set {K : PySem.W.Frag} {θ : List Addr} {H : Hp} {ds : List (Option D)} {σ : St} (S : Slr K θ H ds σ) {d : D} {v : V} (r : Rep K θ H d v) (i : Nat) : Slr K θ H (ds.set i (some d)) (σ.set i (some v)) := by
  refine ⟨by simp [S.len], fun j e h => ?_⟩
  by_cases hj : j = i
  · subst hj
    have hl : j < ds.length := by have := (List.getElem?_eq_some_iff.mp h).1; simpa using this
    rw [List.getElem?_set_self hl] at h
    cases h
    exact ⟨v, List.getElem?_set_self (by rw [← S.len]; exact hl), r⟩
  · rw [List.getElem?_set_ne (Ne.symm hj)] at h
    obtain ⟨w, e1, r1⟩ := S.at_ j e h
    exact ⟨w, by rw [List.getElem?_set_ne (Ne.symm hj)]; exact e1, r1⟩

/-! ## canonical readings -/
def tCan (X : Cx) (e : Expr) : TE := fun σ H Q => ∀ pins s, Inv X pins σ H s → wpAny (model X.prog X.w) X.A (eval e X.env) (EP X pins σ Q) X.xe s
theorem pe_can {X : Cx} {e : Expr} : PE X e (tCan X e) := ⟨fun pins s _ _ _ I h => h pins s I⟩
theorem can_pe {X : Cx} {e : Expr} {t : TE} (h : PE X e t) {σ : St} {H : Hp} {Q : VK} (q : t σ H Q) : tCan X e σ H Q := fun pins s I => h.run pins s σ H Q I q
theorem tCan.mono {X : Cx} {e : Expr} {σ : St} {H : Hp} {Q Q' : VK} (h : tCan X e σ H Q) (q : ∀ v H', Q v H' → Q' v H') : tCan X e σ H Q' := fun pins s I =>
  thn (h pins s I) fun _ _ ⟨v, H', I', r, z⟩ => ⟨v, H', I', r, q v H' z⟩
def ttCan (X : Cx) (e : Expr) : TT := fun σ H Q => ∀ pins s, Inv X pins σ H s → wpAny (model X.prog X.w) X.A (isTrue e X.env (eval e X.env)) (TP X pins σ Q) X.xe s
theorem pt_can {X : Cx} {e : Expr} : PT X e (ttCan X e) := ⟨fun pins s _ _ _ I h => h pins s I⟩
theorem can_pt {X : Cx} {e : Expr} {t : TT} (h : PT X e t) {σ : St} {H : Hp} {Q : Bool → Hp → Prop} (q : t σ H Q) : ttCan X e σ H Q := fun pins s I => h.run pins s σ H Q I q
theorem ttCan.mono {X : Cx} {e : Expr} {σ : St} {H : Hp} {Q Q' : Bool → Hp → Prop} (h : ttCan X e σ H Q) (q : ∀ v H', Q v H' → Q' v H') : ttCan X e σ H Q' := fun pins s I =>
  thn (h pins s I) fun _ _ ⟨H', I', z⟩ => ⟨H', I', q _ H' z⟩
def twCan (X : Cx) (e : Expr) : TT := fun σ H Q => ∀ (whole : Sem Value) pins s, Inv X pins σ H s → wpAny (model X.prog X.w) X.A (isTrue e X.env whole) (TP X pins σ Q) X.xe s
theorem pw_can {X : Cx} {e : Expr} : PW X e (twCan X e) := ⟨fun w pins s _ _ _ I h => h w pins s I⟩
theorem can_pw {X : Cx} {e : Expr} {t : TT} (h : PW X e t) {σ : St} {H : Hp} {Q : Bool → Hp → Prop} (q : t σ H Q) : twCan X e σ H Q := fun w pins s I => h.run w pins s σ H Q I q
def taCan (X : Cx) (es : List Expr) : TA := fun σ H Q => ∀ pos pins s, Inv X pins σ H s → wpAny (model X.prog X.w) X.A (spliced (backTo pos (starEach es X.env))) (AP X pins σ Q) X.xe s
theorem pa_can {X : Cx} {es : List Expr} : PA X es (taCan X es) := ⟨fun pos pins s _ _ _ I h => h pos pins s I⟩
theorem can_pa {X : Cx} {es : List Expr} {t : TA} (h : PA X es t) {σ : St} {H : Hp} {Q : List V → Hp → Prop} (q : t σ H Q) : taCan X es σ H Q := fun pos pins s I => h.run pos pins s σ H Q I q
theorem taCan.mono {X : Cx} {es : List Expr} {σ : St} {H : Hp} {Q Q' : List V → Hp → Prop} (h : taCan X es σ H Q) (q : ∀ v H', Q v H' → Q' v H') : taCan X es σ H Q' := fun pos pins s I =>
  thn (h pos pins s I) fun _ _ ⟨v, H', I', r, z⟩ => ⟨v, H', I', r, q v H' z⟩
def tsCan (X : Cx) (st : Stmt) : TS := fun D σ H => ∀ pins s, Inv X pins σ H s → wpAny (model X.prog X.w) X.A (exec st X.env) (SP X pins D) X.xe s
theorem ps_can {X : Cx} {st : Stmt} : PS X st (tsCan X st) := ⟨fun pins s _ _ _ I h => h pins s I⟩
theorem can_ps {X : Cx} {st : Stmt} {t : TS} (h : PS X st t) {σ : St} {H : Hp} {D : Ends} (q : t D σ H) : tsCan X st D σ H := fun pins s I => h.run pins s σ H D I q
def tssCan (X : Cx) (st : List Stmt) : TS := fun D σ H => ∀ pins s, Inv X pins σ H s → wpAny (model X.prog X.w) X.A (execs st X.env) (SP X pins D) X.xe s
theorem pss_can {X : Cx} {st : List Stmt} : PSs X st (tssCan X st) := ⟨fun pins s _ _ _ I h => h pins s I⟩
theorem can_pss {X : Cx} {st : List Stmt} {t : TS} (h : PSs X st t) {σ : St} {H : Hp} {D : Ends} (q : t D σ H) : tssCan X st D σ H := fun pins s I => h.run pins s σ H D I q
theorem SP.imp {X : Cx} {pins : List (Addr × Obj)} {D D' : Ends} (h1 : ∀ σ H, D.nx σ H → D'.nx σ H) (h2 : ∀ v H, D.rt v H → D'.rt v H) (h3 : ∀ σ H, D.bk σ H → D'.bk σ H) (h4 : ∀ σ H, D.ct σ H → D'.ct σ H) {f : Flow} {s : Shared}
    (h : SP X pins D f s) : SP X pins D' f s := by
  cases f with
  | next => obtain ⟨σ, H, I, q⟩ := h; exact ⟨σ, H, I, h1 _ _ q⟩
  | brk => obtain ⟨σ, H, I, q⟩ := h; exact ⟨σ, H, I, h3 _ _ q⟩
  | cont => obtain ⟨σ, H, I, q⟩ := h; exact ⟨σ, H, I, h4 _ _ q⟩
  | ret u => obtain ⟨v, σ, H, I, r, q⟩ := h; exact ⟨v, σ, H, I, r, h2 _ _ q⟩
theorem tssCan.imp {X : Cx} {st : List Stmt} {D D' : Ends} {σ : St} {H : Hp} (h : tssCan X st D σ H) (h1 : ∀ σ H, D.nx σ H → D'.nx σ H) (h2 : ∀ v H, D.rt v H → D'.rt v H) (h3 : ∀ σ H, D.bk σ H → D'.bk σ H) (h4 : ∀ σ H, D.ct σ H → D'.ct σ H) : tssCan X st D' σ H :=
  fun pins s I => thn (h pins s I) fun _ _ z => SP.imp h1 h2 h3 h4 z
theorem tsCan.imp {X : Cx} {st : Stmt} {D D' : Ends} {σ : St} {H : Hp} (h : tsCan X st D σ H) (h1 : ∀ σ H, D.nx σ H → D'.nx σ H) (h2 : ∀ v H, D.rt v H → D'.rt v H) (h3 : ∀ σ H, D.bk σ H → D'.bk σ H) (h4 : ∀ σ H, D.ct σ H → D'.ct σ H) : tsCan X st D' σ H :=
  fun pins s I => thn (h pins s I) fun _ _ z => SP.imp h1 h2 h3 h4 z
def tgCan (X : Cx) (tg : Expr) : TG := fun v σ H Q => ∀ pins s u, Inv X pins σ H s → RelV v u → wpAny (model X.prog X.w) X.A (assign tg X.env u) (fun _ s' => ∃ σ' H', Inv X pins σ' H' s' ∧ Q σ' H') X.xe s
theorem pg_can {X : Cx} {tg : Expr} : PG X tg (tgCan X tg) := ⟨fun pins s _ _ _ u _ I r h => h pins s u I r⟩
theorem can_pg {X : Cx} {tg : Expr} {t : TG} (h : PG X tg t) {v : V} {σ : St} {H : Hp} {Q : St → Hp → Prop} (q : t v σ H Q) : tgCan X tg v σ H Q := fun pins s u I r => h.run pins s σ H v u Q I r q
theorem tgCan.mono {X : Cx} {tg : Expr} {v : V} {σ : St} {H : Hp} {Q Q' : St → Hp → Prop} (h : tgCan X tg v σ H Q) (q : ∀ σ' H', Q σ' H' → Q' σ' H') : tgCan X tg v σ H Q' := fun pins s u I r =>
  thn (h pins s u I r) fun _ _ ⟨σ', H', I', z⟩ => ⟨σ', H', I', q σ' H' z⟩
def tiCan (X : Cx) (tg e : Expr) : TI := fun σ H R => ∀ pins s, Inv X pins σ H s → wpAny (model X.prog X.w) X.A (eval e X.env) (fun v s1 => wpAny (model X.prog X.w) X.A (pyIter v) (PIE X pins σ tg R) X.xe s1) X.xe s
theorem pi_can {X : Cx} {tg e : Expr} : PI X tg e (tiCan X tg e) := ⟨fun pins s _ _ _ I h => h pins s I⟩
theorem can_pi {X : Cx} {tg e : Expr} {t : TI} (h : PI X tg e t) {σ : St} {H : Hp} {R : It → Hp → Prop} (q : t σ H R) : tiCan X tg e σ H R := fun pins s I => h.run pins s σ H R I q

/-! ## the judgements -/
def PV (K : PySem.W.Frag) (B : Bs) (θ : List Addr) (H : Hp) (Q : D → List Ob → Prop) : VK := fun v H' => ∃ d ms' more, Rep K (θ ++ more) H' d v ∧ ImmP H H' ∧ Sat K B (θ ++ more) ms' H' ∧ Q d ms'
def PVs (K : PySem.W.Frag) (B : Bs) (θ : List Addr) (H : Hp) (Q : List D → List Ob → Prop) : List V → Hp → Prop := fun vs H' => ∃ dl ms' more, Reps K (θ ++ more) H' dl vs ∧ ImmP H H' ∧ Sat K B (θ ++ more) ms' H' ∧ Q dl ms'
def PT' (K : PySem.W.Frag) (B : Bs) (θ : List Addr) (H : Hp) (Q : Bool → List Ob → Prop) : Bool → Hp → Prop := fun b H' => ∃ ms' more, ImmP H H' ∧ Sat K B (θ ++ more) ms' H' ∧ Q b ms'
/-- an expression -/
structure WE (X : Cx) (B : Bs) (ds : List (Option D)) (ms : List Ob) (e : Expr) (Q : D → List Ob → Prop) : Prop where
  run : ∀ σ H θ, Sat X.K B θ ms H → Slr X.K θ H ds σ → tCan X e σ H (PV X.K B θ H Q)
instance {X : Cx} {B : Bs} {ds : List (Option D)} {ms : List Ob} {e : Expr} {Q : D → List Ob → Prop} : CoeFun (WE X B ds ms e Q) (fun _ => ∀ σ H θ, Sat X.K B θ ms H → Slr X.K θ H ds σ → tCan X e σ H (PV X.K B θ H Q)) := ⟨fun h => h.run⟩
/-- arguments -/
structure WA (X : Cx) (B : Bs) (ds : List (Option D)) (ms : List Ob) (es : List Expr) (Q : List D → List Ob → Prop) : Prop where
  run : ∀ σ H θ, Sat X.K B θ ms H → Slr X.K θ H ds σ → taCan X es σ H (PVs X.K B θ H Q)
instance {X : Cx} {B : Bs} {ds : List (Option D)} {ms : List Ob} {es : List Expr} {Q : List D → List Ob → Prop} : CoeFun (WA X B ds ms es Q) (fun _ => ∀ σ H θ, Sat X.K B θ ms H → Slr X.K θ H ds σ → taCan X es σ H (PVs X.K B θ H Q)) := ⟨fun h => h.run⟩
/-- a test; a test within and, or -/
structure WT (X : Cx) (B : Bs) (ds : List (Option D)) (ms : List Ob) (e : Expr) (Q : Bool → List Ob → Prop) : Prop where
  run : ∀ σ H θ, Sat X.K B θ ms H → Slr X.K θ H ds σ → ttCan X e σ H (PT' X.K B θ H Q)
instance {X : Cx} {B : Bs} {ds : List (Option D)} {ms : List Ob} {e : Expr} {Q : Bool → List Ob → Prop} : CoeFun (WT X B ds ms e Q) (fun _ => ∀ σ H θ, Sat X.K B θ ms H → Slr X.K θ H ds σ → ttCan X e σ H (PT' X.K B θ H Q)) := ⟨fun h => h.run⟩
structure WW (X : Cx) (B : Bs) (ds : List (Option D)) (ms : List Ob) (e : Expr) (Q : Bool → List Ob → Prop) : Prop where
  run : ∀ σ H θ, Sat X.K B θ ms H → Slr X.K θ H ds σ → twCan X e σ H (PT' X.K B θ H Q)
instance {X : Cx} {B : Bs} {ds : List (Option D)} {ms : List Ob} {e : Expr} {Q : Bool → List Ob → Prop} : CoeFun (WW X B ds ms e Q) (fun _ => ∀ σ H θ, Sat X.K B θ ms H → Slr X.K θ H ds σ → twCan X e σ H (PT' X.K B θ H Q)) := ⟨fun h => h.run⟩
/-- a target -/
structure WG (X : Cx) (B : Bs) (ds : List (Option D)) (ms : List Ob) (tg : Expr) (d : D) (N : List (Option D) → List Ob → Prop) : Prop where
  run : ∀ σ H θ v, Sat X.K B θ ms H → Slr X.K θ H ds σ → Rep X.K θ H d v → tgCan X tg v σ H fun σ' H' => ∃ ds' ms' more, Slr X.K (θ ++ more) H' ds' σ' ∧ ImmP H H' ∧ Sat X.K B (θ ++ more) ms' H' ∧ N ds' ms'
instance {X : Cx} {B : Bs} {ds : List (Option D)} {ms : List Ob} {tg : Expr} {d : D} {N : List (Option D) → List Ob → Prop} : CoeFun (WG X B ds ms tg d N) (fun _ => ∀ σ H θ v, Sat X.K B θ ms H → Slr X.K θ H ds σ → Rep X.K θ H d v → tgCan X tg v σ H fun σ' H' => ∃ ds' ms' more, Slr X.K (θ ++ more) H' ds' σ' ∧ ImmP H H' ∧ Sat X.K B (θ ++ more) ms' H' ∧ N ds' ms') := ⟨fun h => h.run⟩
/-- the ends of statements -/
structure En where
  nx : List (Option D) → List Ob → Prop
  rt : D → List Ob → Prop
  bk : List (Option D) → List Ob → Prop := fun _ _ => False
  ct : List (Option D) → List Ob → Prop := fun _ _ => False
def nxOf (K : PySem.W.Frag) (B : Bs) (fl : Nat) (θ : List Addr) (H : Hp) (N : List (Option D) → List Ob → Prop) : St → Hp → Prop := fun σ' H' =>
  ∃ ds' ms' θ', Slr K θ' H' ds' σ' ∧ ImmP H H' ∧ θ'.take fl = θ.take fl ∧ Sat K B θ' ms' H' ∧ N ds' ms'
def rtOf (K : PySem.W.Frag) (B : Bs) (fl : Nat) (θ : List Addr) (H : Hp) (R : D → List Ob → Prop) : VK := fun v H' =>
  ∃ d ms' θ', Rep K θ' H' d v ∧ ImmP H H' ∧ θ'.take fl = θ.take fl ∧ Sat K B θ' ms' H' ∧ R d ms'
def enOf (K : PySem.W.Frag) (B : Bs) (fl : Nat) (θ : List Addr) (H : Hp) (E : En) : Ends :=
  ⟨nxOf K B fl θ H E.nx, rtOf K B fl θ H E.rt, nxOf K B fl θ H E.bk, nxOf K B fl θ H E.ct⟩
structure WS (X : Cx) (B : Bs) (fl : Nat) (ds : List (Option D)) (ms : List Ob) (st : Stmt) (E : En) : Prop where
  run : ∀ σ H θ, fl ≤ θ.length → Sat X.K B θ ms H → Slr X.K θ H ds σ → tsCan X st (enOf X.K B fl θ H E) σ H
instance {X : Cx} {B : Bs} {fl : Nat} {ds : List (Option D)} {ms : List Ob} {st : Stmt} {E : En} : CoeFun (WS X B fl ds ms st E) (fun _ => ∀ σ H θ, fl ≤ θ.length → Sat X.K B θ ms H → Slr X.K θ H ds σ → tsCan X st (enOf X.K B fl θ H E) σ H) := ⟨fun h => h.run⟩
structure WSs (X : Cx) (B : Bs) (fl : Nat) (ds : List (Option D)) (ms : List Ob) (st : List Stmt) (E : En) : Prop where
  run : ∀ σ H θ, fl ≤ θ.length → Sat X.K B θ ms H → Slr X.K θ H ds σ → tssCan X st (enOf X.K B fl θ H E) σ H
instance {X : Cx} {B : Bs} {fl : Nat} {ds : List (Option D)} {ms : List Ob} {st : List Stmt} {E : En} : CoeFun (WSs X B fl ds ms st E) (fun _ => ∀ σ H θ, fl ≤ θ.length → Sat X.K B θ ms H → Slr X.K θ H ds σ → tssCan X st (enOf X.K B fl θ H E) σ H) := ⟨fun h => h.run⟩
end VL

namespace VL
open PySem PySem.Spec PyProof.Rows L2

/-! ## what a datum is, as a value -/
section
variable {K : PySem.W.Frag} {θ : List Addr} {H : Hp} {v : V}
theorem rep_non (h : Rep K θ H .non v) : v = .non := by unfold Rep at h; exact h
theorem rep_bl {b : Bool} (h : Rep K θ H (.bl b) v) : v = .bl b := by unfold Rep at h; exact h
theorem rep_int {i : Int} (h : Rep K θ H (.int i) v) : v = .int i := by unfold Rep at h; exact h
theorem rep_str {x : Str} (h : Rep K θ H (.str x) v) : v = .str x := by unfold Rep at h; exact h
theorem rep_ref {x : Addr} (h : Rep K θ H (.ref x) v) : v = .ref x := by unfold Rep at h; exact h
theorem rep_ty {x : String} (h : Rep K θ H (.ty x) v) : v = .ty x := by unfold Rep at h; exact h
theorem rep_obj {k : Nat} (h : Rep K θ H (.obj k) v) : ∃ a, θ[k]? = some a ∧ v = .ref a := by unfold Rep at h; exact h
theorem rep_tup {ds : List D} (h : Rep K θ H (.tup ds) v) : ∃ a vs, v = .ref a ∧ SqT K H a vs ∧ Reps K θ H ds vs := by unfold Rep at h; exact h
theorem rep_rol {ds : List D} (h : Rep K θ H (.rol ds) v) : ∃ a vs, v = .ref a ∧ SqLi K H a vs ∧ Reps K θ H ds vs := by unfold Rep at h; exact h
theorem rep_rod {ks : List Key} {ds : List D} (h : Rep K θ H (.rod ks ds) v) : ∃ a vs, v = .ref a ∧ (∃ o, H a = some (.frz o (.dK (ks.zip vs)))) ∧ ks.length = ds.length ∧ Reps K θ H ds vs := by unfold Rep at h; exact h
theorem mk_non : Rep K θ H .non .non := by unfold Rep; rfl
theorem mk_bl {b : Bool} : Rep K θ H (.bl b) (.bl b) := by unfold Rep; rfl
theorem mk_int {i : Int} : Rep K θ H (.int i) (.int i) := by unfold Rep; rfl
theorem mk_str {x : Str} : Rep K θ H (.str x) (.str x) := by unfold Rep; rfl
theorem mk_ref {x : Addr} : Rep K θ H (.ref x) (.ref x) := by unfold Rep; rfl
theorem mk_ty {x : String} : Rep K θ H (.ty x) (.ty x) := by unfold Rep; rfl
theorem mk_obj {k : Nat} {a : Addr} (h : θ[k]? = some a) : Rep K θ H (.obj k) (.ref a) := by unfold Rep; exact ⟨a, h, rfl⟩
theorem mk_tup {ds : List D} {a : Addr} {vs : List V} (h : SqT K H a vs) (r : Reps K θ H ds vs) : Rep K θ H (.tup ds) (.ref a) := by unfold Rep; exact ⟨a, vs, rfl, h, r⟩
theorem reps_nil {vs : List V} (h : Reps K θ H [] vs) : vs = [] := by unfold Reps at h; exact h
theorem reps_cons {d : D} {ds : List D} {vs : List V} (h : Reps K θ H (d :: ds) vs) : ∃ v vs', vs = v :: vs' ∧ Rep K θ H d v ∧ Reps K θ H ds vs' := by unfold Reps at h; exact h
theorem mk_nil : Reps K θ H [] [] := by unfold Reps; rfl
theorem mk_cons {d : D} {ds : List D} {v : V} {vs : List V} (h : Rep K θ H d v) (r : Reps K θ H ds vs) : Reps K θ H (d :: ds) (v :: vs) := by unfold Reps; exact ⟨v, vs, rfl, h, r⟩
theorem Reps.length : ∀ {ds : List D} {vs : List V}, Reps K θ H ds vs → vs.length = ds.length
  | [], _, h => by rw [reps_nil h]; rfl
  | d :: ds, _, h => by
    obtain ⟨v, vs', rfl, _, r⟩ := reps_cons h
    simp [Reps.length r]
theorem Reps.get : ∀ {ds : List D} {vs : List V} {i : Nat} {d : D}, Reps K θ H ds vs → ds[i]? = some d → ∃ v, vs[i]? = some v ∧ Rep K θ H d v
  | [], _, _, _, _, e => by simp at e
  | d :: ds, _, 0, _, h, e => by
    obtain ⟨v, vs', rfl, r, _⟩ := reps_cons h
    simp at e; subst e
    exact ⟨v, rfl, r⟩
  | d :: ds, _, i + 1, _, h, e => by
    obtain ⟨v, vs', rfl, _, r⟩ := reps_cons h
    obtain ⟨w, e1, r1⟩ := Reps.get (i := i) r (by simpa using e)
    exact ⟨w, by simpa using e1, r1⟩
theorem Reps.getV : ∀ {ds : List D} {vs : List V} {i : Nat} {v : V}, Reps K θ H ds vs → vs[i]? = some v → ∃ d, ds[i]? = some d ∧ Rep K θ H d v := fun {ds vs i v} h e => by
  have l := h.length
  have hi : i < ds.length := by rw [← l]; exact (List.getElem?_eq_some_iff.mp e).1
  obtain ⟨w, e1, r⟩ := h.get (List.getElem?_eq_getElem hi)
  rw [e] at e1; cases e1
  exact ⟨_, List.getElem?_eq_getElem hi, r⟩
theorem Reps.append : ∀ {ds es : List D} {vs ws : List V}, Reps K θ H ds vs → Reps K θ H es ws → Reps K θ H (ds ++ es) (vs ++ ws)
  | [], _, _, _, h, r => by rw [reps_nil h]; exact r
  | d :: ds, _, _, _, h, r => by
    obtain ⟨v, vs', rfl, r1, r2⟩ := reps_cons h
    exact mk_cons r1 (Reps.append r2 r)
theorem Reps.drop : ∀ {ds : List D} {vs : List V} (n : Nat), Reps K θ H ds vs → Reps K θ H (ds.drop n) (vs.drop n)
  | _, _, 0, h => h
  | [], _, n + 1, h => by rw [reps_nil h]; exact mk_nil
  | d :: ds, _, n + 1, h => by
    obtain ⟨v, vs', rfl, _, r⟩ := reps_cons h
    exact Reps.drop n r
theorem Reps.take : ∀ {ds : List D} {vs : List V} (n : Nat), Reps K θ H ds vs → Reps K θ H (ds.take n) (vs.take n)
  | _, _, 0, h => by simpa using mk_nil
  | [], _, n + 1, h => by rw [reps_nil h]; exact mk_nil
  | d :: ds, _, n + 1, h => by
    obtain ⟨v, vs', rfl, r1, r⟩ := reps_cons h
    exact mk_cons r1 (Reps.take n r)
theorem Reps.set : ∀ {ds : List D} {vs : List V} {d : D} {v : V} (n : Nat), Reps K θ H ds vs → Rep K θ H d v → Reps K θ H (ds.set n d) (vs.set n v)
  | [], _, _, _, _, h, _ => by rw [reps_nil h]; exact mk_nil
  | d :: ds, _, _, _, 0, h, r => by
    obtain ⟨v, vs', rfl, r1, r2⟩ := reps_cons h
    exact mk_cons r r2
  | d :: ds, _, _, _, n + 1, h, r => by
    obtain ⟨v, vs', rfl, r1, r2⟩ := reps_cons h
    exact mk_cons r1 (Reps.set n r2 r)
theorem Reps.reverse : ∀ {ds : List D} {vs : List V}, Reps K θ H ds vs → Reps K θ H ds.reverse vs.reverse
  | [], _, h => by rw [reps_nil h]; exact mk_nil
  | d :: ds, _, h => by
    obtain ⟨v, vs', rfl, r1, r⟩ := reps_cons h
    rw [List.reverse_cons, List.reverse_cons]
    exact (Reps.reverse r).append (mk_cons r1 mk_nil)
theorem Reps.ints : ∀ {ns : List Int} {vs : List V}, Reps K θ H (ns.map D.int) vs → vs = ns.map V.int
  | [], _, h => reps_nil h
  | n :: ns, _, h => by
    obtain ⟨v, vs', rfl, r, rs⟩ := reps_cons h
    rw [rep_int r, Reps.ints rs]; rfl
theorem Reps.strs : ∀ {ns : List Str} {vs : List V}, Reps K θ H (ns.map D.str) vs → vs = ns.map V.str
  | [], _, h => reps_nil h
  | n :: ns, _, h => by
    obtain ⟨v, vs', rfl, r, rs⟩ := reps_cons h
    rw [rep_str r, Reps.strs rs]; rfl
end
/-- the items of xs[lo:hi] -/
def cutD (xs : List D) (lo hi : Option Int) : List D := (xs.drop (HT.sIx xs.length 0 lo)).take (HT.sIx xs.length xs.length hi - HT.sIx xs.length 0 lo)
theorem Reps.cut {K : PySem.W.Frag} {θ : List Addr} {H : Hp} {ds : List D} {vs : List V} (r : Reps K θ H ds vs) (lo hi : Option Int) : Reps K θ H (cutD ds lo hi) (cutV vs lo hi) := by
  unfold cutD cutV
  rw [r.length]
  exact (r.drop _).take _
theorem atI_len {α β : Type} {xs : List α} {ys : List β} (h : xs.length = ys.length) {i : Int} {x : α} (e : atI xs i = some x) : ∃ j : Nat, xs[j]? = some x ∧ ∀ y, ys[j]? = some y → atI ys i = some y := by
  unfold atI at e ⊢
  rw [h] at e
  cases q : ixN ys.length i with
  | none => rw [q] at e; cases e
  | some j =>
    rw [q] at e
    exact ⟨j, e, fun y hy => hy⟩
theorem Reps.atI {K : PySem.W.Frag} {θ : List Addr} {H : Hp} {ds : List D} {vs : List V} (r : Reps K θ H ds vs) {i : Int} {d : D} (e : atI ds i = some d) : ∃ v, L2.atI vs i = some v ∧ Rep K θ H d v := by
  obtain ⟨j, e1, f⟩ := atI_len (ys := vs) r.length.symm e
  obtain ⟨v, e2, rv⟩ := r.get e1
  exact ⟨v, f v e2, rv⟩

/-! ## posts -/
section
variable {K : PySem.W.Frag} {B : Bs} {θ : List Addr} {ms : List Ob} {H : Hp} {Q : D → List Ob → Prop}
theorem pv_same {d : D} {v : V} (S : Sat K B θ ms H) (r : Rep K θ H d v) (q : Q d ms) : PV K B θ H Q v H :=
  ⟨d, ms, [], by rw [List.append_nil]; exact r, ImmP.refl _, by rw [List.append_nil]; exact S, q⟩
theorem pv_tup {dl : List D} {vs : List V} {p : Addr} (S : Sat K B θ ms H) (r : Reps K θ H dl vs) (hp : H p = none) (q : Q (.tup dl) ms) : PV K B θ H Q (.ref p) (upd H p (.tup vs)) :=
  ⟨.tup dl, ms, [], by rw [List.append_nil]; exact mk_tup (SqT.of upd_same) (Reps.mono (Le.refl _) (ImmP.new hp) _ _ r), ImmP.new hp, by rw [List.append_nil]; exact S.fresh hp, q⟩
theorem pv_lst {dl : List D} {vs : List V} {p : Addr} (S : Sat K B θ ms H) (r : Reps K θ H dl vs) (hp : H p = none) (q : Q (.obj ms.length) (ms ++ [.lst dl])) : PV K B θ H Q (.ref p) (upd H p (.lst vs)) :=
  ⟨.obj ms.length, ms ++ [.lst dl], [p], mk_obj (by rw [← S.len]; simp), ImmP.new hp, S.alloc (ob := .lst dl) hp ⟨vs, upd_same, Reps.mono (Le.app _ _) (ImmP.new hp) _ _ r⟩, q⟩
theorem pv_set {k : Nat} {a : Addr} {d : D} {v : V} {dl : List D} {vs : List V} (S : Sat K B θ ms H) (hk : θ[k]? = some a) (r : Reps K θ H dl vs) (rd : Rep K θ H d v) (q : Q d (ms.set k (.lst dl))) : PV K B θ H Q v (upd H a (.lst vs)) := by
  have im : ImmP H (upd H a (.lst vs)) := by
    obtain ⟨u, hu, hi⟩ := S.tracked (List.mem_of_getElem? hk)
    exact ImmP.mut hu hi
  have w := S.write (o := .lst vs) (ob := .lst dl) hk ⟨vs, upd_same, Reps.mono (Le.refl _) im _ _ r⟩
  exact ⟨d, _, [], by rw [List.append_nil]; exact Rep.mono (Le.refl _) im _ _ rd, im, by rw [List.append_nil]; exact w.1, q⟩
theorem PV.trans {H1 : Hp} {more : List Addr} {v : V} {H2 : Hp} (im : ImmP H H1) (h : PV K B (θ ++ more) H1 Q v H2) : PV K B θ H Q v H2 := by
  obtain ⟨d, ms', more', r, im2, S, q⟩ := h
  exact ⟨d, ms', more ++ more', by rw [← List.append_assoc]; exact r, im.trans im2, by rw [← List.append_assoc]; exact S, q⟩
theorem PV.imp {Q' : D → List Ob → Prop} (hq : ∀ d m, Q d m → Q' d m) {v : V} {H2 : Hp} (h : PV K B θ H Q v H2) : PV K B θ H Q' v H2 := by
  obtain ⟨d, ms', more', r, im2, S, q⟩ := h
  exact ⟨d, ms', more', r, im2, S, hq _ _ q⟩
theorem PT'.trans {Q : Bool → List Ob → Prop} {H1 : Hp} {more : List Addr} {v : Bool} {H2 : Hp} (im : ImmP H H1) (h : PT' K B (θ ++ more) H1 Q v H2) : PT' K B θ H Q v H2 := by
  obtain ⟨ms', more', im2, S, q⟩ := h
  exact ⟨ms', more ++ more', im.trans im2, by rw [← List.append_assoc]; exact S, q⟩
theorem PVs.trans {Q : List D → List Ob → Prop} {H1 : Hp} {more : List Addr} {v : List V} {H2 : Hp} (im : ImmP H H1) (h : PVs K B (θ ++ more) H1 Q v H2) : PVs K B θ H Q v H2 := by
  obtain ⟨d, ms', more', r, im2, S, q⟩ := h
  exact ⟨d, ms', more ++ more', by rw [← List.append_assoc]; exact r, im.trans im2, by rw [← List.append_assoc]; exact S, q⟩
end

/-! ## expressions -/
section
variable {X : Cx} {B : Bs} {ds : List (Option D)} {ms : List Ob} {Q : D → List Ob → Prop} {a b c : Expr} {pos : Pos}
theorem we_imp {e : Expr} {Q' : D → List Ob → Prop} (h : WE X B ds ms e Q') (q : ∀ d m, Q' d m → Q d m) : WE X B ds ms e Q := .mk fun σ H θ S L => (h σ H θ S L).mono fun v H' z => z.imp q
theorem WE.pe {e : Expr} {t : TE} (h : PE X e t) (q : ∀ σ H θ, Sat X.K B θ ms H → Slr X.K θ H ds σ → t σ H (PV X.K B θ H Q)) : WE X B ds ms e Q := .mk fun σ H θ S L => can_pe h (q σ H θ S L)
/-- sequencing under the semantic readings -/
theorem WE.bind {e : Expr} {Q' : D → List Ob → Prop} (h : WE X B ds ms e Q') {σ : St} {H : Hp} {θ : List Addr} (S : Sat X.K B θ ms H) (L : Slr X.K θ H ds σ) {R : VK}
    (q : ∀ d m v H1 more, Q' d m → Rep X.K (θ ++ more) H1 d v → ImmP H H1 → Sat X.K B (θ ++ more) m H1 → Slr X.K (θ ++ more) H1 ds σ → R v H1) : tCan X e σ H R :=
  (h σ H θ S L).mono fun v H1 ⟨d, m, more, r, im, S1, z⟩ => q d m v H1 more z r im S1 (L.mono (Le.app _ _) im)
theorem WT.bind {e : Expr} {Q' : Bool → List Ob → Prop} (h : WT X B ds ms e Q') {σ : St} {H : Hp} {θ : List Addr} (S : Sat X.K B θ ms H) (L : Slr X.K θ H ds σ) {R : Bool → Hp → Prop}
    (q : ∀ b m H1 more, Q' b m → ImmP H H1 → Sat X.K B (θ ++ more) m H1 → Slr X.K (θ ++ more) H1 ds σ → R b H1) : ttCan X e σ H R :=
  (h σ H θ S L).mono fun v H1 ⟨m, more, im, S1, z⟩ => q v m H1 more z im S1 (L.mono (Le.app _ _) im)
theorem WA.bind {es : List Expr} {Q' : List D → List Ob → Prop} (h : WA X B ds ms es Q') {σ : St} {H : Hp} {θ : List Addr} (S : Sat X.K B θ ms H) (L : Slr X.K θ H ds σ) {R : List V → Hp → Prop}
    (q : ∀ d m v H1 more, Q' d m → Reps X.K (θ ++ more) H1 d v → ImmP H H1 → Sat X.K B (θ ++ more) m H1 → Slr X.K (θ ++ more) H1 ds σ → R v H1) : taCan X es σ H R :=
  (h σ H θ S L).mono fun v H1 ⟨d, m, more, r, im, S1, z⟩ => q d m v H1 more z r im S1 (L.mono (Le.app _ _) im)

theorem we_name (i : Nat) {x : Str} {d : D} (hN : X.N[i]? = some x) (h : ds[i]? = some (some d)) (hv : Vis X.env.scope x) (q : Q d ms)
    (hd : (x == ("__debug__" : Str)) = false := by decide) (hcd : (x == ("__classdict__" : Str)) = false := by decide) : WE X B ds ms (.Name x pos) Q :=
  WE.pe (pe_var hN hv hd hcd) fun σ H θ S L => let ⟨v, e, r⟩ := L.at_ i d h; ⟨v, e, pv_same S r q⟩
theorem we_int {n : Int} {k : Nat} (q : Q (.int n) ms) : WE X B ds ms (.Constant (.int n) k pos) Q := WE.pe pe_int fun σ H θ S L => pv_same S mk_int q
theorem we_str {n : Str} {k : Nat} (q : Q (.str n) ms) : WE X B ds ms (.Constant (.str n) k pos) Q := WE.pe pe_str fun σ H θ S L => pv_same S mk_str q
theorem we_bl {n : Bool} {k : Nat} (q : Q (.bl n) ms) : WE X B ds ms (.Constant (.bool n) k pos) Q := WE.pe pe_bl fun σ H θ S L => pv_same S mk_bl q
theorem we_non {k : Nat} (q : Q .non ms) : WE X B ds ms (.Constant .none k pos) Q := WE.pe pe_non fun σ H θ S L => pv_same S mk_non q
/-- a constant of the module -/
theorem we_glob {x : Str} {u : Value} {d : D} (hm : X.mg x = some u) (r : ∃ v, RelV v u ∧ ∀ θ H, Rep X.K θ H d v) (q : Q d ms) (hg : Gl X x) (hd : (x == ("__debug__" : Str)) = false := by decide) : WE X B ds ms (.Name x pos) Q :=
  let ⟨v, r1, r2⟩ := r
  WE.pe (pe_glob hg hm r1 hd) fun σ H θ S L => pv_same S (r2 θ H) q
theorem we_globS {x y : Str} {t : Tok} (hm : X.mg x = some (.str y t)) (hg : Gl X x) (q : Q (.str y) ms) (hd : (x == ("__debug__" : Str)) = false := by decide) : WE X B ds ms (.Name x pos) Q :=
  we_glob (d := .str y) hm ⟨.str y, ⟨t, rfl⟩, fun _ _ => mk_str⟩ q hg hd
theorem we_globI {x : Str} {y : Int} {t : Tok} (hm : X.mg x = some (.int y t)) (hg : Gl X x) (q : Q (.int y) ms) (hd : (x == ("__debug__" : Str)) = false := by decide) : WE X B ds ms (.Name x pos) Q :=
  we_glob (d := .int y) hm ⟨.int y, ⟨t, rfl⟩, fun _ _ => mk_int⟩ q hg hd

/-! ### operators -/
def roCan (X : Cx) (f : Value → Value → Sem Value) : R2 := fun x y H Q => ∀ pins s σ v u, Inv X pins σ H s → RelV x v → RelV y u → wpAny (model X.prog X.w) X.A (f v u) (EP X pins σ Q) X.xe s
theorem or_can {f : Value → Value → Sem Value} : OpR X f (roCan X f) := fun pins s σ H x y v u Q I rx ry h => h pins s σ v u I rx ry
def WO (X : Cx) (B : Bs) (ms : List Ob) (f : Value → Value → Sem Value) (d e : D) (Q : D → List Ob → Prop) : Prop :=
  ∀ H θ x y, Sat X.K B θ ms H → Rep X.K θ H d x → Rep X.K θ H e y → roCan X f x y H (PV X.K B θ H Q)
theorem WO.of {f : Value → Value → Sem Value} {r : R2} {d e : D} (h : OpR X f r) (q : ∀ H θ x y, Sat X.K B θ ms H → Rep X.K θ H d x → Rep X.K θ H e y → r x y H (PV X.K B θ H Q)) : WO X B ms f d e Q :=
  fun H θ x y S r1 r2 pins s σ v u I rx ry => h pins s σ H x y v u _ I rx ry (q H θ x y S r1 r2)
theorem roCan.mono {f : Value → Value → Sem Value} {x y : V} {H : Hp} {Q Q' : VK} (h : roCan X f x y H Q) (q : ∀ v H', Q v H' → Q' v H') : roCan X f x y H Q' := fun pins s σ v u I rx ry =>
  thn (h pins s σ v u I rx ry) fun _ _ ⟨v, H', I', r, z⟩ => ⟨v, H', I', r, q v H' z⟩
theorem we_bin {op : Operator} (h : WE X B ds ms a fun d m => WE X B ds m b fun e m2 => WO X B m2 (binaryOp op) d e Q) : WE X B ds ms (.BinOp a op b pos) Q :=
  WE.pe (pe_op or_can pe_can pe_can) fun σ H θ S L => h.bind S L fun d m v H1 more q1 r1 im1 S1 L1 => q1.bind S1 L1 fun e m2 w H2 more2 q2 r2 im2 S2 L2 =>
    (q2 H2 _ v w S2 (Rep.mono (Le.app _ _) im2 _ _ r1) r2).mono fun z H3 hz => (hz.trans im2).trans im1
theorem we_cmp {op : CmpOp} (h : WE X B ds ms a fun d m => WE X B ds m b fun e m2 => WO X B m2 (compareOp op) d e Q) (hm : behindInMarks op b = false := by first | exact nomark _ | rfl) : WE X B ds ms (.Compare a [op] [b] pos) Q :=
  WE.pe (pe_cmpR or_can pe_can pe_can hm) fun σ H θ S L => h.bind S L fun d m v H1 more q1 r1 im1 S1 L1 => q1.bind S1 L1 fun e m2 w H2 more2 q2 r2 im2 S2 L2 =>
    (q2 H2 _ v w S2 (Rep.mono (Le.app _ _) im2 _ _ r1) r2).mono fun z H3 hz => (hz.trans im2).trans im1
def WU (X : Cx) (B : Bs) (ms : List Ob) (f : Value → Sem Value) (d : D) (Q : D → List Ob → Prop) : Prop :=
  ∀ H θ x, Sat X.K B θ ms H → Rep X.K θ H d x → ∀ pins s σ v, Inv X pins σ H s → RelV x v → wpAny (model X.prog X.w) X.A (f v) (EP X pins σ (PV X.K B θ H Q)) X.xe s
theorem we_un {op : UnaryOp} (h : WE X B ds ms a fun d m => WU X B m (unaryOp op) d Q) : WE X B ds ms (.UnaryOp op a pos) Q :=
  WE.pe (pe_un (r := fun x H Q => ∀ pins s σ v, Inv X pins σ H s → RelV x v → wpAny (model X.prog X.w) X.A (unaryOp op v) (EP X pins σ Q) X.xe s) (fun pins s σ H x v Q I r h => h pins s σ v I r) pe_can) fun σ H θ S L =>
    h.bind S L fun d m v H1 more q1 r1 im1 S1 L1 pins s σ' u I r => thn (q1 H1 _ v S1 r1 pins s σ' u I r) fun _ _ ⟨v, H', I', r, z⟩ => ⟨v, H', I', r, z.trans im1⟩
theorem wu_neg {i : Int} (q : Q (.int (-i)) ms) : WU X B ms (unaryOp .USub) (.int i) Q := fun H θ x S r pins s σ v I rv =>
  un_neg pins s σ H x v _ I rv ⟨i, rep_int r, pv_same S mk_int q⟩

theorem wo_I {f : Value → Value → Sem Value} {C : Int → Int → Prop} {g : Int → Int → Int} (h : OpR X f (rI C fun i j => .int (g i j))) {i j : Int} (hc : C i j) (q : Q (.int (g i j)) ms) : WO X B ms f (.int i) (.int j) Q :=
  WO.of h fun H θ x y S r1 r2 => ⟨i, j, rep_int r1, rep_int r2, hc, pv_same S mk_int q⟩
theorem wo_I0 {f : Value → Value → Sem Value} {g : Int → Int → Int} (h : OpR X f (rI0 fun i j => .int (g i j))) {i j : Int} (q : Q (.int (g i j)) ms) : WO X B ms f (.int i) (.int j) Q :=
  WO.of h fun H θ x y S r1 r2 => ⟨i, j, rep_int r1, rep_int r2, pv_same S mk_int q⟩
theorem wo_B0 {f : Value → Value → Sem Value} {g : Int → Int → Bool} (h : OpR X f (rI0 fun i j => .bl (g i j))) {i j : Int} (q : Q (.bl (g i j)) ms) : WO X B ms f (.int i) (.int j) Q :=
  WO.of h fun H θ x y S r1 r2 => ⟨i, j, rep_int r1, rep_int r2, pv_same S mk_bl q⟩
theorem wo_addI {i j : Int} (q : Q (.int (i + j)) ms) : WO X B ms (binaryOp .Add) (.int i) (.int j) Q := wo_I0 op_add q
theorem wo_subI {i j : Int} (q : Q (.int (i - j)) ms) : WO X B ms (binaryOp .Sub) (.int i) (.int j) Q := wo_I0 op_sub q
theorem wo_mulI {i j : Int} (hc : CMul i j) (q : Q (.int (i * j)) ms) : WO X B ms (binaryOp .Mult) (.int i) (.int j) Q := wo_I op_mul hc q
theorem wo_divI {i j : Int} (hc : CDivW i j) (q : Q (.int (i / j)) ms) : WO X B ms (binaryOp .FloorDiv) (.int i) (.int j) Q := wo_I op_fdivW hc q
theorem wo_modI {i j : Int} (hc : 0 < j) (q : Q (.int (i % j)) ms) : WO X B ms (binaryOp .Mod) (.int i) (.int j) Q := wo_I (C := fun _ j => 0 < j) op_mod hc q
theorem wo_powI {i j : Int} (hc : CPow i j) (q : Q (.int (i ^ j.toNat)) ms) : WO X B ms (binaryOp .Pow) (.int i) (.int j) Q := wo_I op_pow hc q
theorem wo_addS {i j : Str} (hc : i.length + j.length ≤ sizeLine) (q : Q (.str (i ++ j)) ms) : WO X B ms (binaryOp .Add) (.str i) (.str j) Q :=
  WO.of op_add_str fun H θ x y S r1 r2 => ⟨i, j, rep_str r1, rep_str r2, hc, pv_same S mk_str q⟩
theorem wo_ltI {i j : Int} (q : Q (.bl (decide (i < j))) ms) : WO X B ms (compareOp .Lt) (.int i) (.int j) Q := wo_B0 op_lt q
theorem wo_leI {i j : Int} (q : Q (.bl (decide (i ≤ j))) ms) : WO X B ms (compareOp .LtE) (.int i) (.int j) Q := wo_B0 op_le q
theorem wo_gtI {i j : Int} (q : Q (.bl (decide (j < i))) ms) : WO X B ms (compareOp .Gt) (.int i) (.int j) Q := wo_B0 op_gt q
theorem wo_geI {i j : Int} (q : Q (.bl (decide (j ≤ i))) ms) : WO X B ms (compareOp .GtE) (.int i) (.int j) Q := wo_B0 op_ge q
theorem wo_eqI {i j : Int} (q : Q (.bl (decide (i = j))) ms) : WO X B ms (compareOp .Eq) (.int i) (.int j) Q :=
  WO.of op_eq fun H θ x y S r1 r2 => by
    rw [rep_int r1, rep_int r2]
    refine ⟨rfl, ?_⟩
    rw [show decide (V.int i = V.int j) = decide (i = j) by simp]
    exact pv_same S mk_bl q
theorem wo_neI {i j : Int} (q : Q (.bl (!decide (i = j))) ms) : WO X B ms (compareOp .NotEq) (.int i) (.int j) Q :=
  WO.of op_ne fun H θ x y S r1 r2 => by
    rw [rep_int r1, rep_int r2]
    refine ⟨rfl, ?_⟩
    rw [show decide (V.int i = V.int j) = decide (i = j) by simp]
    exact pv_same S mk_bl q
theorem wo_eqS {i j : Str} (q : Q (.bl (decide (i = j))) ms) : WO X B ms (compareOp .Eq) (.str i) (.str j) Q :=
  WO.of op_eq fun H θ x y S r1 r2 => by
    rw [rep_str r1, rep_str r2]
    refine ⟨rfl, ?_⟩
    rw [show decide (V.str i = V.str j) = decide (i = j) by simp]
    exact pv_same S mk_bl q
theorem wo_neS {i j : Str} (q : Q (.bl (!decide (i = j))) ms) : WO X B ms (compareOp .NotEq) (.str i) (.str j) Q :=
  WO.of op_ne fun H θ x y S r1 r2 => by
    rw [rep_str r1, rep_str r2]
    refine ⟨rfl, ?_⟩
    rw [show decide (V.str i = V.str j) = decide (i = j) by simp]
    exact pv_same S mk_bl q
/-- tuple + tuple -/
theorem wo_addT {xs ys : List D} (hc : xs.length + ys.length ≤ sizeLine) (q : Q (.tup (xs ++ ys)) ms) : WO X B ms (binaryOp .Add) (.tup xs) (.tup ys) Q :=
  WO.of op_catA fun H θ x y S r1 r2 => by
    obtain ⟨a, vs, rfl, s1, q1⟩ := rep_tup r1
    obtain ⟨b, ws, rfl, s2, q2⟩ := rep_tup r2
    refine ⟨a, b, vs, ws, rfl, rfl, s1, s2, by rw [q1.length, q2.length]; exact hc, fun e => ?_, fun _ e => ?_, fun _ _ p hp => pv_tup S (q1.append q2) hp q⟩
    · subst e
      have : xs = [] := by
        have := q1.length
        cases xs with
        | nil => rfl
        | cons _ _ => simp at this
      subst this
      exact pv_same S (mk_tup s2 q2) q
    · subst e
      have : ys = [] := by
        have := q2.length
        cases ys with
        | nil => rfl
        | cons _ _ => simp at this
      subst this
      rw [List.append_nil] at q
      exact pv_same S (mk_tup s1 q1) q
/-- list + list -/
theorem wo_addL {k l : Nat} {xs ys : List D} (h1 : ms[k]? = some (.lst xs)) (h2 : ms[l]? = some (.lst ys)) (hc : xs.length + ys.length ≤ sizeLine) (q : Q (.obj ms.length) (ms ++ [.lst (xs ++ ys)])) : WO X B ms (binaryOp .Add) (.obj k) (.obj l) Q :=
  WO.of op_cat fun H θ x y S r1 r2 => by
    obtain ⟨a, e1, rfl⟩ := rep_obj r1
    obtain ⟨b, e2, rfl⟩ := rep_obj r2
    obtain ⟨vs, s1, q1⟩ := S.obs k _ a h1 e1
    obtain ⟨ws, s2, q2⟩ := S.obs l _ b h2 e2
    exact ⟨a, b, vs, ws, rfl, rfl, s1, s2, by rw [q1.length, q2.length]; exact hc, fun p hp => pv_lst S (q1.append q2) hp q⟩
/-- text * int -/
theorem wo_mulS {x : Str} {n : Int} (hok : MulOk x n) (q : Q (.str (Txt.mul x n)) ms) : WO X B ms (binaryOp .Mult) (.str x) (.int n) Q := fun H θ v w S r1 r2 pins s σ u u2 I rv rw' => by
  cases rep_str r1
  cases rep_int r2
  obtain ⟨t, rfl⟩ := rv
  obtain ⟨t', rfl⟩ := rw'
  exact PySem.SB.mul hok fun t' k => ⟨.str (Txt.mul x n), H, I.tok k, ⟨t', rfl⟩, pv_same S mk_str q⟩
end
end VL

namespace VL
open PySem PySem.Spec PyProof.Rows L2

section
variable {X : Cx} {B : Bs} {ds : List (Option D)} {ms : List Ob} {Q : D → List Ob → Prop} {a b c : Expr} {pos : Pos}

/-! ## arguments -/
theorem wa_nil {Q : List D → List Ob → Prop} (q : Q [] ms) : WA X B ds ms [] Q := .mk fun σ H θ S L => can_pa pa_nil (show PVs X.K B θ H Q [] H from
  ⟨[], ms, [], mk_nil, ImmP.refl _, by rw [List.append_nil]; exact S, q⟩)
theorem wa_cons {e : Expr} {es : List Expr} {Q : List D → List Ob → Prop} (h : WE X B ds ms e fun d m => WA X B ds m es fun dl m2 => Q (d :: dl) m2)
    (hs : starEach (e :: es) X.env = (false, eval e X.env) :: starEach es X.env := by rfl) : WA X B ds ms (e :: es) Q := .mk fun σ H θ S L =>
  can_pa (pa_cons pe_can pa_can hs) (h.bind S L fun d m v H1 more q1 r1 im1 S1 L1 => q1.bind S1 L1 fun dl m2 vs H2 more2 q2 r2 im2 S2 L2 =>
    ⟨d :: dl, m2, more ++ more2, by rw [← List.append_assoc]; exact mk_cons (Rep.mono (Le.app _ _) im2 _ _ r1) r2, im1.trans im2, by rw [← List.append_assoc]; exact S2, q2⟩)
/-! ## displays -/
theorem we_tup {es : List Expr} {k : Nat} (h : WA X B ds ms es fun dl m => dl.length ≤ sizeLine ∧ Q (.tup dl) m) : WE X B ds ms (.Tuple es k pos) Q :=
  WE.pe (pe_tup pa_can) fun σ H θ S L => h.bind S L fun dl m vs H1 more q1 r1 im1 S1 L1 => ⟨by rw [r1.length]; exact q1.1, fun p hp => (pv_tup S1 r1 hp q1.2).trans im1⟩
theorem we_list {es : List Expr} (h : WA X B ds ms es fun dl m => dl.length ≤ sizeLine ∧ Q (.obj m.length) (m ++ [.lst dl])) : WE X B ds ms (.List es pos) Q :=
  WE.pe (pe_lst pa_can) fun σ H θ S L => h.bind S L fun dl m vs H1 more q1 r1 im1 S1 L1 => ⟨by rw [r1.length]; exact q1.1, fun p hp => (pv_lst S1 r1 hp q1.2).trans im1⟩
theorem we_dict0 (q : Q (.obj ms.length) (ms ++ [.dK []])) : WE X B ds ms (.Dict [] [] pos) Q :=
  WE.pe pe_dnewK fun σ H θ S L d hd => ⟨.obj ms.length, ms ++ [.dK []], [d], mk_obj (by rw [← S.len]; simp), ImmP.new hd, S.alloc (ob := .dK []) hd ⟨[], upd_same, rfl⟩, q⟩

/-! ## calls of built-ins -/
def rcCan (X : Cx) (f : Value) : List V → Hp → VK → Prop := fun xs H Q => ∀ pins s σ us, Inv X pins σ H s → Vals xs us → wpAny (model X.prog X.w) X.A (call f us) (EP X pins σ Q) X.xe s
theorem rc_can {f : Value} : CallR X f (rcCan X f) := fun pins s σ H xs us Q I r h => h pins s σ us I r
def WC (X : Cx) (B : Bs) (ms : List Ob) (f : Value) (dl : List D) (Q : D → List Ob → Prop) : Prop :=
  ∀ H θ vs, Sat X.K B θ ms H → Reps X.K θ H dl vs → rcCan X f vs H (PV X.K B θ H Q)
theorem WC.of {f : Value} {r : List V → Hp → VK → Prop} {dl : List D} (h : CallR X f r) (q : ∀ H θ vs, Sat X.K B θ ms H → Reps X.K θ H dl vs → r vs H (PV X.K B θ H Q)) : WC X B ms f dl Q :=
  fun H θ vs S r1 pins s σ us I rx => h pins s σ H vs us _ I rx (q H θ vs S r1)
theorem rcCan.mono {f : Value} {xs : List V} {H : Hp} {Q Q' : VK} (h : rcCan X f xs H Q) (q : ∀ v H', Q v H' → Q' v H') : rcCan X f xs H Q' := fun pins s σ us I r =>
  thn (h pins s σ us I r) fun _ _ ⟨v, H', I', r, z⟩ => ⟨v, H', I', r, q v H' z⟩
theorem we_callB {x : Str} {p : Pos} {e : Expr} {es : List Expr} {id : String} (hm : X.mg x = none) (hv : bootBuiltins x = some (.builtin id)) (hg : Gl X x)
    (h : WA X B ds ms (e :: es) fun dl m => WC X B m (.builtin id) dl Q) (hn : x ≠ "__name__" := by decide) (hdb : (x == ("__debug__" : Str)) = false := by decide)
    (he : starEach (e :: es) X.env = (false, eval e X.env) :: starEach es X.env := by rfl) (hpl : (backTo pos (starEach es X.env)).any (·.1) = false := by rfl) : WE X B ds ms (.Call (.Name x p) (e :: es) [] pos) Q :=
  WE.pe (pe_callB rc_can hg hm hv pa_can hn hdb he hpl) fun σ H θ S L => h.bind S L fun dl m vs H1 more q1 r1 im1 S1 L1 => (q1 H1 _ vs S1 r1).mono fun v H2 z => z.trans im1
theorem we_callTy {x : Str} {p : Pos} {e : Expr} {es : List Expr} {T : String} (hm : X.mg x = none) (hv : bootBuiltins x = some (.type T)) (hg : Gl X x)
    (h : WA X B ds ms (e :: es) fun dl m => WC X B m (.type T) dl Q) (hn : x ≠ "__name__" := by decide) (hdb : (x == ("__debug__" : Str)) = false := by decide)
    (he : starEach (e :: es) X.env = (false, eval e X.env) :: starEach es X.env := by rfl) (hpl : (backTo pos (starEach es X.env)).any (·.1) = false := by rfl) : WE X B ds ms (.Call (.Name x p) (e :: es) [] pos) Q :=
  WE.pe (pe_callTy rc_can hg hm hv pa_can hn hdb he hpl) fun σ H θ S L => h.bind S L fun dl m vs H1 more q1 r1 im1 S1 L1 => (q1 H1 _ vs S1 r1).mono fun v H2 z => z.trans im1
theorem reps1 {K : PySem.W.Frag} {θ : List Addr} {H : Hp} {d : D} {vs : List V} (h : Reps K θ H [d] vs) : ∃ v, vs = [v] ∧ Rep K θ H d v := by
  obtain ⟨v, vs', rfl, r, rs⟩ := reps_cons h
  rw [reps_nil rs]; exact ⟨v, rfl, r⟩
theorem reps2 {K : PySem.W.Frag} {θ : List Addr} {H : Hp} {d e : D} {vs : List V} (h : Reps K θ H [d, e] vs) : ∃ v w, vs = [v, w] ∧ Rep K θ H d v ∧ Rep K θ H e w := by
  obtain ⟨v, vs', rfl, r, rs⟩ := reps_cons h
  obtain ⟨w, rfl, r2⟩ := reps1 rs
  exact ⟨v, w, rfl, r, r2⟩
theorem wc_abs {i : Int} (q : Q (.int (if i < 0 then -i else i)) ms) : WC X B ms (.builtin "abs") [.int i] Q := WC.of call_abs fun H θ vs S r0 => by
  obtain ⟨v, rfl, r⟩ := reps1 r0
  exact ⟨i, by rw [rep_int r], pv_same S mk_int q⟩
theorem wc_int {i : Int} (q : Q (.int i) ms) : WC X B ms (.type "int") [.int i] Q := WC.of call_int1 fun H θ vs S r0 => by
  obtain ⟨v, rfl, r⟩ := reps1 r0
  exact .inl ⟨i, by rw [rep_int r], pv_same S mk_int q⟩
theorem wc_intB {i : Bool} (q : Q (.int (if i then 1 else 0)) ms) : WC X B ms (.type "int") [.bl i] Q := WC.of call_int1 fun H θ vs S r0 => by
  obtain ⟨v, rfl, r⟩ := reps1 r0
  exact .inr ⟨i, by rw [rep_bl r], pv_same S mk_int q⟩
theorem wc_max {i j : Int} (hc : X.calm = true) (q : Q (.int (if j > i then j else i)) ms) : WC X B ms (.builtin "max") [.int i, .int j] Q := WC.of (call_max2 hc) fun H θ vs S r0 => by
  obtain ⟨v, w, rfl, r1, r2⟩ := reps2 r0
  exact ⟨i, j, by rw [rep_int r1, rep_int r2], pv_same S mk_int q⟩
theorem wc_min {i j : Int} (hc : X.calm = true) (q : Q (.int (if j < i then j else i)) ms) : WC X B ms (.builtin "min") [.int i, .int j] Q := WC.of (call_min2 hc) fun H θ vs S r0 => by
  obtain ⟨v, w, rfl, r1, r2⟩ := reps2 r0
  exact ⟨i, j, by rw [rep_int r1, rep_int r2], pv_same S mk_int q⟩
theorem wc_lenS {x : Str} (hl : x.length ≤ sizeLine) (q : Q (.int x.length) ms) : WC X B ms (.builtin "len") [.str x] Q := WC.of call_len fun H θ vs S r0 => by
  obtain ⟨v, rfl, r⟩ := reps1 r0
  exact ⟨.str x, x.length, by rw [rep_str r], ⟨hl, rfl⟩, pv_same S mk_int q⟩
theorem wc_lenT {xs : List D} (q : Q (.int xs.length) ms) : WC X B ms (.builtin "len") [.tup xs] Q := WC.of call_len fun H θ vs S r0 => by
  obtain ⟨v, rfl, r⟩ := reps1 r0
  obtain ⟨a, ws, rfl, s, rs⟩ := rep_tup r
  exact ⟨.ref a, xs.length, rfl, .inr ⟨ws, s, rs.length.symm⟩, pv_same S mk_int q⟩
theorem wc_lenL {k : Nat} {xs : List D} (h : ms[k]? = some (.lst xs)) (q : Q (.int xs.length) ms) : WC X B ms (.builtin "len") [.obj k] Q := WC.of call_len fun H θ vs S r0 => by
  obtain ⟨v, rfl, r⟩ := reps1 r0
  obtain ⟨a, e, rfl⟩ := rep_obj r
  obtain ⟨ws, s, rs⟩ := S.obs k _ a h e
  exact ⟨.ref a, xs.length, rfl, .inl ⟨ws, SqL.of s, rs.length.symm⟩, pv_same S mk_int q⟩
theorem wc_lenR {xs : List D} (q : Q (.int xs.length) ms) : WC X B ms (.builtin "len") [.rol xs] Q := WC.of call_len fun H θ vs S r0 => by
  obtain ⟨v, rfl, r⟩ := reps1 r0
  obtain ⟨a, ws, rfl, s, rs⟩ := rep_rol r
  exact ⟨.ref a, xs.length, rfl, .inl ⟨ws, s.sq, rs.length.symm⟩, pv_same S mk_int q⟩
theorem wc_tupleL {k : Nat} {xs : List D} (h : ms[k]? = some (.lst xs)) (q : Q (.tup xs) ms) : WC X B ms (.type "tuple") [.obj k] Q := WC.of call_tuple_of fun H θ vs S r0 => by
  obtain ⟨v, rfl, r⟩ := reps1 r0
  obtain ⟨a, e, rfl⟩ := rep_obj r
  obtain ⟨ws, s, rs⟩ := S.obs k _ a h e
  exact ⟨a, ws, rfl, .inl ⟨SqL.of s, fun p hp => pv_tup S rs hp q⟩⟩
theorem wc_tupleT {xs : List D} (q : Q (.tup xs) ms) : WC X B ms (.type "tuple") [.tup xs] Q := WC.of call_tuple_of fun H θ vs S r0 => by
  obtain ⟨v, rfl, r⟩ := reps1 r0
  obtain ⟨a, ws, rfl, s, rs⟩ := rep_tup r
  exact ⟨a, ws, rfl, .inr ⟨s, pv_same S (mk_tup s rs) q⟩⟩
theorem wc_listL {k : Nat} {xs : List D} (h : ms[k]? = some (.lst xs)) (q : Q (.obj ms.length) (ms ++ [.lst xs])) : WC X B ms (.type "list") [.obj k] Q := WC.of call_list_of fun H θ vs S r0 => by
  obtain ⟨v, rfl, r⟩ := reps1 r0
  obtain ⟨a, e, rfl⟩ := rep_obj r
  obtain ⟨ws, s, rs⟩ := S.obs k _ a h e
  exact ⟨a, ws, rfl, .inl (SqL.of s), fun p hp => pv_lst S rs hp q⟩
theorem wc_listT {xs : List D} (q : Q (.obj ms.length) (ms ++ [.lst xs])) : WC X B ms (.type "list") [.tup xs] Q := WC.of call_list_of fun H θ vs S r0 => by
  obtain ⟨v, rfl, r⟩ := reps1 r0
  obtain ⟨a, ws, rfl, s, rs⟩ := rep_tup r
  exact ⟨a, ws, rfl, .inr s, fun p hp => pv_lst S rs hp q⟩

/-! ## subscripts -/
def rixCan (X : Cx) (value slice : Expr) : R2 := fun x y H Q => ∀ pins s σ v u, Inv X pins σ H s → RelV x v → RelV y u → subscripted slice false v u = operate [v, u] (getItem v u) → wpAny (model X.prog X.w) X.A (subscriptTail value slice v u) (EP X pins σ Q) X.xe s
def WX (X : Cx) (B : Bs) (ms : List Ob) (value slice : Expr) (d e : D) (Q : D → List Ob → Prop) : Prop :=
  ∀ H θ x y, Sat X.K B θ ms H → Rep X.K θ H d x → Rep X.K θ H e y → rixCan X value slice x y H (PV X.K B θ H Q)
theorem pe_ixc (hs : PlainIx b) {ta tb : TE} (ha : PE X a ta) (hb : PE X b tb) : PE X (.Subscript a b pos) (tOp (rixCan X a b) ta tb) := by
  refine ⟨fun pins s σ H Q I h => ?_⟩
  exact Subscript_ (binT ha hb I h fun v u s2 x y H2 I2 rx ry q => q pins s2 σ v u I2 rx ry (hs _ _))
theorem rixCan.mono {value slice : Expr} {x y : V} {H : Hp} {Q Q' : VK} (h : rixCan X value slice x y H Q) (q : ∀ v H', Q v H' → Q' v H') : rixCan X value slice x y H Q' := fun pins s σ v u I rx ry hs =>
  thn (h pins s σ v u I rx ry hs) fun _ _ ⟨v, H', I', r, z⟩ => ⟨v, H', I', r, q v H' z⟩
theorem we_ix (h : WE X B ds ms a fun d m => WE X B ds m b fun e m2 => WX X B m2 a b d e Q) (hs : PlainIx b := by exact fun _ _ => rfl) : WE X B ds ms (.Subscript a b pos) Q :=
  WE.pe (pe_ixc hs pe_can pe_can) fun σ H θ S L => h.bind S L fun d m v H1 more q1 r1 im1 S1 L1 => q1.bind S1 L1 fun e m2 w H2 more2 q2 r2 im2 S2 L2 =>
    (q2 H2 _ v w S2 (Rep.mono (Le.app _ _) im2 _ _ r1) r2).mono fun z H3 hz => (hz.trans im2).trans im1
theorem WX.of {r : R2} {d e : D} (h : IxR X r) (q : ∀ H θ x y, Sat X.K B θ ms H → Rep X.K θ H d x → Rep X.K θ H e y → r x y H (PV X.K B θ H Q)) : WX X B ms a b d e Q :=
  fun H θ x y S r1 r2 pins s σ v u I rx ry hs => h a b pins s σ H x y v u _ I rx ry (q H θ x y S r1 r2) hs
theorem wx_T {xs : List D} {i : Int} {d : D} (h : atI xs i = some d) (q : Q d ms) : WX X B ms a b (.tup xs) (.int i) Q := WX.of ix_tup fun H θ x y S r1 r2 => by
  obtain ⟨p, vs, rfl, s, rs⟩ := rep_tup r1
  obtain ⟨v, e, rv⟩ := rs.atI h
  exact ⟨p, vs, i, v, rfl, rep_int r2, s, e, pv_same S rv q⟩
theorem wx_L {k : Nat} {xs : List D} {i : Int} {d : D} (hk : ms[k]? = some (.lst xs)) (h : atI xs i = some d) (q : Q d ms) : WX X B ms a b (.obj k) (.int i) Q := WX.of ix_list fun H θ x y S r1 r2 => by
  obtain ⟨p, e, rfl⟩ := rep_obj r1
  obtain ⟨vs, s, rs⟩ := S.obs k _ p hk e
  obtain ⟨v, e, rv⟩ := rs.atI h
  exact ⟨p, vs, i, v, rfl, rep_int r2, SqL.of s, e, pv_same S rv q⟩
theorem wx_S {z : Str} {i : Int} {c : Nat} (hl : z.length ≤ sizeLine) (h : atI z.cps.toList i = some c) (q : Q (.str ⟨#[c]⟩) ms) : WX X B ms a b (.str z) (.int i) Q := WX.of ix_str fun H θ x y S r1 r2 =>
  ⟨z, i, c, rep_str r1, rep_int r2, hl, h, pv_same S mk_str q⟩
/-- d[k], keys ints or texts -/
def kD : Key → D
  | .inl i => .int i
  | .inr x => .str x
theorem rep_kD {K : PySem.W.Frag} {θ : List Addr} {H : Hp} {k : Key} {v : V} (h : Rep K θ H (kD k) v) : v = kV k := by
  cases k with
  | inl i => exact rep_int h
  | inr x => exact rep_str h
def valD {κ : Type} [DecidableEq κ] (kvs : List (κ × D)) (k : κ) : Option D := (kvs.find? fun kv => decide (kv.1 = k)).map (·.2)
def putD {κ : Type} [DecidableEq κ] (kvs : List (κ × D)) (k : κ) (v : D) : List (κ × D) :=
  if (kvs.any fun kv => decide (kv.1 = k)) = true then kvs.map (fun kv => if kv.1 = k then (kv.1, v) else kv) else kvs ++ [(k, v)]
section
variable {κ : Type} [DecidableEq κ] {K : PySem.W.Frag} {θ : List Addr} {H : Hp}
theorem RepKV.val {k : κ} : ∀ {kvs : List (κ × D)} {vs : List (κ × V)}, RepKV K θ H kvs vs → (∀ d, valD kvs k = some d → ∃ v, valV vs k = some v ∧ Rep K θ H d v) ∧ (valD kvs k = none → valV vs k = none)
  | [], _, h => by
    cases (show _ = [] from h)
    exact ⟨fun d e => (by cases e), fun _ => rfl⟩
  | (k2, d2) :: r, _, h => by
    obtain ⟨v, vs', rfl, r1, rs⟩ := h
    obtain ⟨i1, i2⟩ := RepKV.val (k := k) rs
    by_cases e : k2 = k
    · have e1 : valD ((k2, d2) :: r) k = some d2 := by simp [valD, List.find?_cons, e]
      rw [e1, valV_pos (p := (k2, v)) e]
      exact ⟨fun d q => ⟨v, rfl, by cases q; exact r1⟩, fun q => by cases q⟩
    · have e1 : valD ((k2, d2) :: r) k = valD r k := by simp [valD, List.find?_cons, e]
      rw [e1, valV_neg (p := (k2, v)) e]
      exact ⟨i1, i2⟩
theorem RepKV.length : ∀ {kvs : List (κ × D)} {vs : List (κ × V)}, RepKV K θ H kvs vs → vs.length = kvs.length
  | [], _, h => by cases (show _ = [] from h); rfl
  | _ :: r, _, h => by
    obtain ⟨v, vs', rfl, r1, rs⟩ := h
    simp [RepKV.length rs]
theorem RepKV.any {k : κ} : ∀ {kvs : List (κ × D)} {vs : List (κ × V)}, RepKV K θ H kvs vs → (vs.any fun kv => decide (kv.1 = k)) = (kvs.any fun kv => decide (kv.1 = k))
  | [], _, h => by cases (show _ = [] from h); rfl
  | (k2, d2) :: r, _, h => by
    obtain ⟨v, vs', rfl, r1, rs⟩ := h
    simp [RepKV.any rs]
theorem RepKV.append : ∀ {kvs kvs2 : List (κ × D)} {vs vs2 : List (κ × V)}, RepKV K θ H kvs vs → RepKV K θ H kvs2 vs2 → RepKV K θ H (kvs ++ kvs2) (vs ++ vs2)
  | [], _, _, _, h, h2 => by cases (show _ = [] from h); exact h2
  | (k2, d2) :: r, _, _, _, h, h2 => by
    obtain ⟨v, vs', rfl, r1, rs⟩ := h
    exact ⟨v, vs' ++ _, rfl, r1, RepKV.append rs h2⟩
theorem RepKV.repl {k : κ} {d : D} {w : V} (rd : Rep K θ H d w) : ∀ {kvs : List (κ × D)} {vs : List (κ × V)}, RepKV K θ H kvs vs → RepKV K θ H (kvs.map fun kv => if kv.1 = k then (kv.1, d) else kv) (vs.map fun kv => if kv.1 = k then (kv.1, w) else kv)
  | [], _, h => by cases (show _ = [] from h); rfl
  | (k2, d2) :: r, _, h => by
    obtain ⟨v, vs', rfl, r1, rs⟩ := h
    by_cases e : k2 = k
    · rw [List.map_cons, List.map_cons, if_pos e, if_pos e]
      exact ⟨w, _, rfl, rd, RepKV.repl rd rs⟩
    · rw [List.map_cons, List.map_cons, if_neg e, if_neg e]
      exact ⟨v, _, rfl, r1, RepKV.repl rd rs⟩
theorem RepKV.put {kvs : List (κ × D)} {vs : List (κ × V)} (h : RepKV K θ H kvs vs) (k : κ) {d : D} {w : V} (rd : Rep K θ H d w) : RepKV K θ H (putD kvs k d) (putK vs k w) := by
  unfold putD putK
  rw [h.any (k := k)]
  split
  · exact h.repl rd
  · exact h.append ⟨w, [], rfl, rd, rfl⟩
theorem RepKV.fld {f : Str} : ∀ {fs : List (Str × D)} {vs : List (Str × V)}, RepKV K θ H fs vs → (∀ d, fs.lookup f = some d → ∃ v, vs.lookup f = some v ∧ Rep K θ H d v) ∧ (fs.lookup f = none → vs.lookup f = none)
  | [], _, h => by
    cases (show _ = [] from h)
    exact ⟨fun d e => (by cases e), fun _ => rfl⟩
  | (k2, d2) :: r, _, h => by
    obtain ⟨v, vs', rfl, r1, rs⟩ := h
    obtain ⟨i1, i2⟩ := RepKV.fld (f := f) rs
    rw [List.lookup_cons, List.lookup_cons]
    split
    · exact ⟨fun d q => ⟨v, rfl, by cases q; exact r1⟩, fun q => by cases q⟩
    · exact ⟨i1, i2⟩
end
def putFD (f : Str) (v : D) : List (Str × D) → List (Str × D)
  | [] => [(f, v)]
  | (g, x) :: r => if g = f then (g, v) :: r else (g, x) :: putFD f v r
theorem RepKV.putF {K : PySem.W.Frag} {θ : List Addr} {H : Hp} {f : Str} {d : D} {w : V} (rd : Rep K θ H d w) : ∀ {fs : List (Str × D)} {vs : List (Str × V)}, RepKV K θ H fs vs → RepKV K θ H (putFD f d fs) (L2.putF f w vs)
  | [], _, h => by
    cases (show _ = [] from h)
    exact ⟨w, [], rfl, rd, rfl⟩
  | (k2, d2) :: r, _, h => by
    obtain ⟨v, vs', rfl, r1, rs⟩ := h
    unfold putFD L2.putF
    split
    · exact ⟨w, vs', rfl, rd, rs⟩
    · exact ⟨v, _, rfl, r1, RepKV.putF rd rs⟩
theorem ix_dict (hu : X.A.units + 1 < cLine) : IxR X (fun x y H Q => ∃ a v, x = .ref a ∧ DGet H a y (some v) ∧ Q v H) := by
  intro value slice pins s σ H x y v u Q I rx ry h hs
  obtain ⟨a, w, rfl, g, q⟩ := h
  cases rx
  exact tail_any (dict_typeIs I g) PySem.F.slot_dict_getitem.lookup (d_getItem hu I g ry fun w' s3 I3 rw' => ⟨w, H, I3, rw', q⟩) hs
theorem wx_D {k : Nat} {kvs : List (Key × D)} {y : Key} {d : D} (hu : X.A.units + 1 < cLine) (hk : ms[k]? = some (.dK kvs)) (h : valD kvs y = some d) (q : Q d ms) : WX X B ms a b (.obj k) (kD y) Q := WX.of (ix_dict hu) fun H θ x z S r1 r2 => by
  obtain ⟨p, e, rfl⟩ := rep_obj r1
  obtain ⟨vs, s, rs⟩ := S.obs k _ p hk e
  obtain ⟨v, e2, rv⟩ := (rs.val (k := y)).1 d h
  rw [rep_kD r2]
  exact ⟨p, v, rfl, by rw [← e2]; exact DGet.k s, pv_same S rv q⟩

/-! ## slices -/
def WP (X : Cx) (B : Bs) (ds : List (Option D)) (ms : List Ob) (e : Option Expr) (Q : Option Int → List Ob → Prop) : Prop :=
  match e with
  | none => Q none ms
  | some e => WE X B ds ms e fun d m => ∃ i, d = .int i ∧ Q (some i) m
def toCan (X : Cx) (e : Option Expr) : TO := fun σ H Q => ∀ pins s, Inv X pins σ H s → wpAny (model X.prog X.w) X.A (evalPart e X.env) (fun u s' => ∃ o H', Inv X pins σ H' s' ∧ IsPart u o ∧ Q o H') X.xe s
theorem po_can {e : Option Expr} : PO X e (toCan X e) := ⟨fun pins s _ _ _ I h => h pins s I⟩
theorem can_po {e : Option Expr} {t : TO} (h : PO X e t) {σ : St} {H : Hp} {Q : Option Int → Hp → Prop} (q : t σ H Q) : toCan X e σ H Q := fun pins s I => h.run pins s σ H Q I q
theorem WP.bind {e : Option Expr} {Q' : Option Int → List Ob → Prop} (h : WP X B ds ms e Q') {σ : St} {H : Hp} {θ : List Addr} (S : Sat X.K B θ ms H) (L : Slr X.K θ H ds σ) {R : Option Int → Hp → Prop}
    (q : ∀ o m H1 more, Q' o m → ImmP H H1 → Sat X.K B (θ ++ more) m H1 → Slr X.K (θ ++ more) H1 ds σ → R o H1) : toCan X e σ H R := by
  cases e with
  | none => exact can_po po_none (show R none H from q none ms H [] h (ImmP.refl _) (by rw [List.append_nil]; exact S) (by rw [List.append_nil]; exact L))
  | some e => exact can_po (po_some pe_can) (WE.bind (show WE X B ds ms e _ from h) S L fun d m v H1 more q1 r im S1 L1 => by
      obtain ⟨i, rfl, q1⟩ := q1
      exact ⟨i, rep_int r, q _ _ _ _ q1 im S1 L1⟩)
def rsCan (X : Cx) : V → Option Int → Option Int → Hp → VK → Prop := fun x lo hi H Q => ∀ (pins : List (Addr × Obj)) (s : Shared) (σ : St) (v vl vu : Value) (sl : Addr), Inv X pins σ H s → RelV x v → s.heap.IsSliceOf sl vl vu .none → IsPart vl lo → IsPart vu hi →
    ∃ T id, typeLookup (.type T) "__getitem__" = pure (some (.builtin id)) ∧ s.TypeIs v T ∧ wpAny (model X.prog X.w) X.A (getItem v (.ref sl)) (EP X pins σ Q) X.xe s
theorem rs_can : SlR X (rsCan X) := fun pins s σ H x v vl vu lo hi sl Q I r h1 h2 h3 h => h pins s σ v vl vu sl I r h1 h2 h3
theorem rsCan.mono {x : V} {lo hi : Option Int} {H : Hp} {Q Q' : VK} (h : rsCan X x lo hi H Q) (q : ∀ v H', Q v H' → Q' v H') : rsCan X x lo hi H Q' := fun pins s σ v vl vu sl I r h1 h2 h3 =>
  let ⟨T, id, a1, a2, a3⟩ := h pins s σ v vl vu sl I r h1 h2 h3
  ⟨T, id, a1, a2, thn a3 fun _ _ ⟨v, H', I', r, z⟩ => ⟨v, H', I', r, q v H' z⟩⟩
def WL (X : Cx) (B : Bs) (ms : List Ob) (d : D) (lo hi : Option Int) (Q : D → List Ob → Prop) : Prop :=
  ∀ H θ x, Sat X.K B θ ms H → Rep X.K θ H d x → rsCan X x lo hi H (PV X.K B θ H Q)
theorem WL.of {r : V → Option Int → Option Int → Hp → VK → Prop} {d : D} {lo hi : Option Int} (h : SlR X r) (q : ∀ H θ x, Sat X.K B θ ms H → Rep X.K θ H d x → r x lo hi H (PV X.K B θ H Q)) : WL X B ms d lo hi Q :=
  fun H θ x S r1 pins s σ v vl vu sl I rx h1 h2 h3 => h pins s σ H x v vl vu lo hi sl _ I rx h1 h2 h3 (q H θ x S r1)
theorem we_slice {lo hi : Option Expr} {p2 : Pos} (h : WE X B ds ms a fun d m => WP X B ds m lo fun l m2 => WP X B ds m2 hi fun u m3 => WL X B m3 d l u Q) : WE X B ds ms (.Subscript a (.Slice lo hi none p2) pos) Q :=
  WE.pe (pe_slice rs_can pe_can po_can po_can) fun σ H θ S L => h.bind S L fun d m v H1 more q1 r1 im1 S1 L1 => q1.bind S1 L1 fun l m2 H2 more2 q2 im2 S2 L2 => q2.bind S2 L2 fun u m3 H3 more3 q3 im3 S3 L3 =>
    (q3 H3 _ v S3 (Rep.mono (Le.app _ _) im3 _ _ (Rep.mono (Le.app _ _) im2 _ _ r1))).mono fun z H4 hz => ((hz.trans im3).trans im2).trans im1
theorem wl_S {z : Str} {lo hi : Option Int} (hz : z.length ≤ sizeLine) (q : Q (.str (cutS z lo hi)) ms) : WL X B ms (.str z) lo hi Q := WL.of sl_str fun H θ x S r => ⟨z, rep_str r, hz, pv_same S mk_str q⟩
theorem wl_L {k : Nat} {xs : List D} {lo hi : Option Int} (hk : ms[k]? = some (.lst xs)) (q : Q (.obj ms.length) (ms ++ [.lst (cutD xs lo hi)])) : WL X B ms (.obj k) lo hi Q := WL.of sl_list fun H θ x S r => by
  obtain ⟨p, e, rfl⟩ := rep_obj r
  obtain ⟨vs, s, rs⟩ := S.obs k _ p hk e
  exact ⟨p, vs, rfl, SqL.of s, fun l hl => pv_lst S (rs.cut lo hi) hl q⟩
theorem wl_R {xs : List D} {lo hi : Option Int} (q : Q (.obj ms.length) (ms ++ [.lst (cutD xs lo hi)])) : WL X B ms (.rol xs) lo hi Q := WL.of sl_list fun H θ x S r => by
  obtain ⟨p, vs, rfl, s, rs⟩ := rep_rol r
  exact ⟨p, vs, rfl, s.sq, fun l hl => pv_lst S (rs.cut lo hi) hl q⟩
theorem wl_T {xs : List D} {lo hi : Option Int} (q : Q (.tup (cutD xs lo hi)) ms) : WL X B ms (.tup xs) lo hi Q := WL.of sl_tupA fun H θ x S r => by
  obtain ⟨p, vs, rfl, s, rs⟩ := rep_tup r
  refine ⟨p, vs, rfl, s, fun hw => ?_, fun hw l hl => pv_tup S (rs.cut lo hi) hl q⟩
  have e : cutD xs lo hi = xs := by
    unfold cutD
    rw [rs.length] at hw
    rw [hw.1, hw.2]
    simp
  rw [e] at q
  exact pv_same S (mk_tup s rs) q
/-- xs[::-1] -/
theorem we_revL {k : Nat} {p1 p2 p3 : Pos} (h : WE X B ds ms a fun d m => ∃ j xs, d = .obj j ∧ m[j]? = some (.lst xs) ∧ Q (.obj m.length) (m ++ [.lst xs.reverse])) :
    WE X B ds ms (.Subscript a (.Slice none none (some (.UnaryOp .USub (.Constant (.int 1) k p1) p2)) p3) pos) Q :=
  WE.pe (pe_revL pe_can) fun σ H θ S L => h.bind S L fun d m v H1 more q1 r1 im1 S1 L1 => by
    obtain ⟨j, xs, rfl, hj, q1⟩ := q1
    obtain ⟨p, e, rfl⟩ := rep_obj r1
    obtain ⟨vs, s, rs⟩ := S1.obs j _ p hj e
    exact ⟨p, vs, rfl, SqL.of s, fun l hl => (pv_lst S1 rs.reverse hl q1).trans im1⟩

/-! ## attributes -/
theorem we_attr {f : Str} (h : WE X B ds ms a fun d m => ∃ k cn C fs e, d = .obj k ∧ m[k]? = some (.ins cn fs) ∧ ClsN X.K cn C ∧ Cls X.K C ∧ NoAttr X.K C f ∧ fs.lookup f = some e ∧ Q e m) (hb : attributeBase a f X.env (eval a X.env) = eval a X.env := by rfl) :
    WE X B ds ms (.Attribute a f pos) Q :=
  WE.pe (pe_fld pe_can hb) fun σ H θ S L => h.bind S L fun d m v H1 more q1 r1 im1 S1 L1 => by
    obtain ⟨k, cn, C, fs, e, rfl, hk, hcn, c, n, l, q1⟩ := q1
    obtain ⟨p, e2, rfl⟩ := rep_obj r1
    obtain ⟨C2, dx, vs, hcn2, s, rs⟩ := S1.obs k _ p hk e2
    cases hcn.inj hcn2
    obtain ⟨w, l2, rw'⟩ := (rs.fld (f := f)).1 e l
    exact ⟨p, C, dx, vs, w, rfl, s, c, n, l2, (pv_same S1 rw' q1).trans im1⟩

/-! ## methods of built-in types -/
def rmCan (X : Cx) (id : String) : V → List V → Hp → VK → Prop := fun x xs H Q => ∀ pins s σ v us, Inv X pins σ H s → RelV x v → Vals xs us → wpAny (model X.prog X.w) X.A (call (.builtin id) (v :: us)) (EP X pins σ Q) X.xe s
theorem rm_can {id : String} : MtR X id (rmCan X id) := fun pins s σ H x xs v us Q I r rs h => h pins s σ v us I r rs
theorem rmCan.mono {id : String} {x : V} {xs : List V} {H : Hp} {Q Q' : VK} (h : rmCan X id x xs H Q) (q : ∀ v H', Q v H' → Q' v H') : rmCan X id x xs H Q' := fun pins s σ v us I r rs =>
  thn (h pins s σ v us I r rs) fun _ _ ⟨v, H', I', r, z⟩ => ⟨v, H', I', r, q v H' z⟩
def WM (X : Cx) (B : Bs) (ms : List Ob) (id : String) (d : D) (dl : List D) (Q : D → List Ob → Prop) : Prop :=
  ∀ H θ x vs, Sat X.K B θ ms H → Rep X.K θ H d x → Reps X.K θ H dl vs → rmCan X id x vs H (PV X.K B θ H Q)
theorem WM.of {id : String} {r : V → List V → Hp → VK → Prop} {d : D} {dl : List D} (h : MtR X id r) (q : ∀ H θ x vs, Sat X.K B θ ms H → Rep X.K θ H d x → Reps X.K θ H dl vs → r x vs H (PV X.K B θ H Q)) : WM X B ms id d dl Q :=
  fun H θ x vs S r1 r2 pins s σ v us I rx rs => h pins s σ H x vs v us _ I rx rs (q H θ x vs S r1 r2)
/-- the datum is of that built-in type -/
def TyD (T : String) (d : D) (ms : List Ob) : Prop := match d with
  | .str _ => T = "str"
  | .int _ => T = "int"
  | .rol _ => T = "list"
  | .obj k => (T = "list" ∧ ∃ xs, ms[k]? = some (.lst xs)) ∨ (T = "dict" ∧ ∃ kvs, ms[k]? = some (.dK kvs)) ∨ (T = "dict" ∧ ∃ kvs, ms[k]? = some (.dT kvs))
  | _ => False
theorem TyD.tyV {K : PySem.W.Frag} {B : Bs} {θ : List Addr} {H : Hp} {T : String} {d : D} {v : V} (h : TyD T d ms) (S : Sat K B θ ms H) (r : Rep K θ H d v) : tyV K T v H := by
  cases d with
  | str x => rw [rep_str r]; exact h
  | int x => rw [rep_int r]; exact h
  | rol xs =>
    obtain ⟨a, vs, rfl, s, _⟩ := rep_rol r
    exact .inl ⟨h, vs, s.sq⟩
  | obj k =>
    obtain ⟨a, e, rfl⟩ := rep_obj r
    rcases h with ⟨rfl, xs, h⟩ | ⟨rfl, xs, h⟩ | ⟨rfl, xs, h⟩
    · obtain ⟨vs, s, _⟩ := S.obs k _ a h e
      exact .inl ⟨rfl, vs, SqL.of s⟩
    · obtain ⟨vs, s, _⟩ := S.obs k _ a h e
      exact .inr (.inr (.inl ⟨rfl, .inl ⟨vs, s⟩⟩))
    · obtain ⟨vs, s, _⟩ := S.obs k _ a h e
      exact .inr (.inr (.inl ⟨rfl, .inr ⟨vs, s⟩⟩))
  | _ => exact h.elim
theorem we_bm {T id : String} {name : Str} {apos : Pos} {e : Expr} {es : List Expr} (pa : PlainAttrs T) (slot : Slot T name id) (hty : typeOf (.builtin id) = pure (.type "method_descriptor"))
    (h : WE X B ds ms a fun d m => TyD T d m ∧ WA X B ds m (e :: es) fun dl m2 => WM X B m2 id d dl Q)
    (hbase : attributeBase a name X.env (eval a X.env) = eval a X.env := by rfl)
    (hfew : ((backTo pos (starEach (e :: es) X.env)).all (fun x => !x.1) && (backToKw pos (keywordEach [] X.env)).all (fun x => x.1.isSome)
      && decide ((e :: es).length + ([] : List Keyword).length + (if ([] : List Keyword).isEmpty then 0 else 1) < 30)) = true := by rfl)
    (hline : (apos.endLine == pos.line) = true := by rfl) (hs : starEach (e :: es) X.env = (false, eval e X.env) :: starEach es X.env := by rfl) (hplain : (backTo pos (starEach es X.env)).any (·.1) = false := by rfl) :
    WE X B ds ms (.Call (.Attribute a name apos) (e :: es) [] pos) Q :=
  WE.pe (pe_bm pa slot hty rm_can pe_can pa_can hbase hfew hline hs hplain) fun σ H θ S L => h.bind S L fun d m v H1 more q1 r1 im1 S1 L1 => ⟨q1.1.tyV S1 r1, q1.2.bind S1 L1 fun dl m2 vs H2 more2 q2 r2 im2 S2 L2 =>
    (q2 H2 _ v vs S2 (Rep.mono (Le.app _ _) im2 _ _ r1) r2).mono fun z H3 hz => (hz.trans im2).trans im1⟩
theorem we_bm0 {T id : String} {name : Str} {apos : Pos} (pa : PlainAttrs T) (slot : Slot T name id) (hty : typeOf (.builtin id) = pure (.type "method_descriptor"))
    (h : WE X B ds ms a fun d m => TyD T d m ∧ WM X B m id d [] Q)
    (hbase : attributeBase a name X.env (eval a X.env) = eval a X.env := by rfl) (hline : (apos.endLine == pos.line) = true := by rfl) : WE X B ds ms (.Call (.Attribute a name apos) [] [] pos) Q :=
  WE.pe (pe_bm0 pa slot hty rm_can pe_can hbase hline) fun σ H θ S L => h.bind S L fun d m v H1 more q1 r1 im1 S1 L1 => ⟨q1.1.tyV S1 r1, (q1.2 H1 _ v [] S1 r1 mk_nil).mono fun z H3 hz => hz.trans im1⟩
theorem wm_append {k : Nat} {xs : List D} {d : D} (hk : ms[k]? = some (.lst xs)) (hl : xs.length < sizeLine) (q : Q .non (ms.set k (.lst (xs ++ [d])))) : WM X B ms "list.append" (.obj k) [d] Q := WM.of mt_append fun H θ x vs S r r0 => by
  obtain ⟨a, e, rfl⟩ := rep_obj r
  obtain ⟨w, rfl, rw'⟩ := reps1 r0
  obtain ⟨vs, s, rs⟩ := S.obs k _ a hk e
  exact ⟨a, vs, w, rfl, rfl, s, by rw [rs.length]; exact hl, pv_set S e (rs.append (mk_cons rw' mk_nil)) mk_non q⟩
theorem wm_extend {k j : Nat} {xs ys : List D} (hk : ms[k]? = some (.lst xs)) (hj : ms[j]? = some (.lst ys)) (hl : xs.length + ys.length ≤ sizeLine) (q : Q .non (ms.set k (.lst (xs ++ ys)))) : WM X B ms "list.extend" (.obj k) [.obj j] Q := WM.of mt_extend fun H θ x vs S r r0 => by
  obtain ⟨a, e, rfl⟩ := rep_obj r
  obtain ⟨w, rfl, rw'⟩ := reps1 r0
  obtain ⟨b, e2, rfl⟩ := rep_obj rw'
  obtain ⟨vs, s, rs⟩ := S.obs k _ a hk e
  obtain ⟨ws, s2, rs2⟩ := S.obs j _ b hj e2
  exact ⟨a, b, vs, ws, rfl, rfl, s, s2, by rw [rs.length, rs2.length]; exact hl, pv_set S e (rs.append rs2) mk_non q⟩
theorem mt_ljustF : MtR X "str.ljust" (fun x xs H Q => ∃ (a : Str) (i : Int) (f : Str), x = .str a ∧ xs = [.int i, .str f] ∧ PadOk i = true ∧ f.length = 1 ∧ Q (.str (Txt.ljustF a i (f.cps.getD 0 0))) H) := by
  intro pins s σ H x xs v us Q I rx rs h
  obtain ⟨a, i, f, rfl, rfl, hc, hf, h⟩ := h
  obtain ⟨t, rfl⟩ := rx
  obtain ⟨u, u2, rfl, ⟨t2, rfl⟩, ⟨t3, rfl⟩⟩ := Vals.two rs
  exact ljust_fill hc hf fun t' k => ⟨.str (Txt.ljustF a i (f.cps.getD 0 0)), H, I.tok k, ⟨t', rfl⟩, h⟩
theorem wm_ljust {x f : Str} {i : Int} (hi : PadOk i = true) (hf : f.length = 1) (q : Q (.str (Txt.ljustF x i (f.cps.getD 0 0))) ms) : WM X B ms "str.ljust" (.str x) [.int i, .str f] Q := WM.of mt_ljustF fun H θ y vs S r r0 => by
  obtain ⟨v, w, rfl, r1, r2⟩ := reps2 r0
  exact ⟨x, i, f, rep_str r, by rw [rep_int r1, rep_str r2], hi, hf, pv_same S mk_str q⟩
theorem wm_join {x : Str} {k : Nat} {ys : List Str} (hk : ms[k]? = some (.lst (ys.map D.str))) (hl : (ys.map (·.length)).sum + ys.length * x.length ≤ 16777216) (q : Q (.str (Txt.join x ys)) ms) : WM X B ms "str.join" (.str x) [.obj k] Q := WM.of mt_join fun H θ y vs S r r0 => by
  obtain ⟨v, rfl, r1⟩ := reps1 r0
  obtain ⟨a, e, rfl⟩ := rep_obj r1
  obtain ⟨ws, s, rs⟩ := S.obs k _ a hk e
  exact ⟨x, a, ys, rep_str r, rfl, .inl (SqL.of (by rw [← rs.strs]; exact s)), hl, pv_same S mk_str q⟩

/-! ## tests -/
theorem WT.pt {e : Expr} {t : TT} {Q : Bool → List Ob → Prop} (h : PT X e t) (q : ∀ σ H θ, Sat X.K B θ ms H → Slr X.K θ H ds σ → t σ H (PT' X.K B θ H Q)) : WT X B ds ms e Q := .mk fun σ H θ S L => can_pt h (q σ H θ S L)
theorem pt_same {K : PySem.W.Frag} {θ : List Addr} {H : Hp} {Q : Bool → List Ob → Prop} {b : Bool} (S : Sat K B θ ms H) (q : Q b ms) : PT' K B θ H Q b H := ⟨ms, [], ImmP.refl _, by rw [List.append_nil]; exact S, q⟩
section
variable {Q : Bool → List Ob → Prop}
/-- a comparison as a test -/
theorem wt_cmp {op : CmpOp} (h : WE X B ds ms a fun d m => WE X B ds m b fun e m2 => WO X B m2 (compareOp op) d e fun r m3 => ∃ k, r = .bl k ∧ Q k m3) (hm : behindInMarks op b = false := by first | exact nomark _ | rfl) : WT X B ds ms (.Compare a [op] [b] pos) Q :=
  WT.pt (pt_cmpR or_can pe_can pe_can hm) fun σ H θ S L => h.bind S L fun d m v H1 more q1 r1 im1 S1 L1 => q1.bind S1 L1 fun e m2 w H2 more2 q2 r2 im2 S2 L2 =>
    (q2 H2 _ v w S2 (Rep.mono (Le.app _ _) im2 _ _ r1) r2).mono fun z H3 ⟨d3, m3, more3, r3, im3, S3, k, e3, q3⟩ => by
      subst e3
      exact ⟨k, rep_bl r3, PT'.trans im1 (PT'.trans im2 ⟨m3, more3, im3, S3, q3⟩)⟩
/-- an expression that gives a truth value -/
theorem wt_val {e : Expr} (h : WE X B ds ms e fun d m => ∃ k, d = .bl k ∧ Q k m) (he : ∀ whole, isTrue e X.env whole = (do let v ← whole; standAt e.pos; holding [v] (truthy v)) := by intro _; rfl) : WT X B ds ms e Q :=
  WT.pt (pt_val pe_can he) fun σ H θ S L => h.bind S L fun d m v H1 more ⟨k, e, q⟩ r1 im1 S1 L1 => by
    subst e
    exact ⟨k, rep_bl r1, PT'.trans im1 (pt_same S1 q)⟩
theorem wt_and1 (h : WT X B ds ms a Q) : WW X B ds ms (.BoolOp .And [a] pos) Q := .mk fun σ H θ S L => can_pw (pw_and1 pt_can) (h σ H θ S L)
theorem wt_or1 (h : WT X B ds ms a Q) : WW X B ds ms (.BoolOp .Or [a] pos) Q := .mk fun σ H θ S L => can_pw (pw_or1 pt_can) (h σ H θ S L)
theorem wt_and2 {rest : List Expr} (h : WT X B ds ms a fun k m => (k = true → WW X B ds m (.BoolOp .And (b :: rest) pos) Q) ∧ (k = false → Q false m)) : WW X B ds ms (.BoolOp .And (a :: b :: rest) pos) Q := .mk fun σ H θ S L =>
  can_pw (pw_and pt_can pw_can) (h.bind S L fun k m H1 more q im S1 L1 => by
    cases k with
    | true => exact fun wh pins s I => thn ((q.1 rfl) σ H1 _ S1 L1 wh pins s I) fun _ _ ⟨H', I', z⟩ => ⟨H', I', PT'.trans im z⟩
    | false => exact PT'.trans im (pt_same S1 (q.2 rfl)))
theorem wt_or2 {rest : List Expr} (h : WT X B ds ms a fun k m => (k = false → WW X B ds m (.BoolOp .Or (b :: rest) pos) Q) ∧ (k = true → Q true m)) : WW X B ds ms (.BoolOp .Or (a :: b :: rest) pos) Q := .mk fun σ H θ S L =>
  can_pw (pw_or pt_can pw_can) (h.bind S L fun k m H1 more q im S1 L1 => by
    cases k with
    | false => exact fun wh pins s I => thn ((q.1 rfl) σ H1 _ S1 L1 wh pins s I) fun _ _ ⟨H', I', z⟩ => ⟨H', I', PT'.trans im z⟩
    | true => exact PT'.trans im (pt_same S1 (q.2 rfl)))
theorem wt_w {e : Expr} (h : WW X B ds ms e Q) : WT X B ds ms e Q := .mk fun σ H θ S L => can_pt (PW.pt pw_can) (h σ H θ S L)
theorem wt_not (h : WT X B ds ms a fun k m => Q (!k) m) : WT X B ds ms (.UnaryOp .Not a pos) Q :=
  WT.pt (pt_not pt_can) fun σ H θ S L => h.bind S L fun k m H1 more q im S1 L1 => PT'.trans im (pt_same S1 q)
end
theorem we_ifExp (h : WT X B ds ms c fun k m => (k = true → WE X B ds m a Q) ∧ (k = false → WE X B ds m b Q)) : WE X B ds ms (.IfExp c a b pos) Q :=
  WE.pe (pe_ifExp pt_can pe_can pe_can) fun σ H θ S L => h.bind S L fun k m H1 more q im S1 L1 => by
    cases k with
    | true => exact ((q.1 rfl) σ H1 _ S1 L1).mono fun v H2 z => z.trans im
    | false => exact ((q.2 rfl) σ H1 _ S1 L1).mono fun v H2 z => z.trans im
end
end VL

namespace VL
open PySem PySem.Spec PyProof.Rows L2

/-! ## statements -/
section
variable {K : PySem.W.Frag} {B : Bs} {fl : Nat} {θ θ' : List Addr} {H H' : Hp}
theorem nxOf.trans {N : List (Option D) → List Ob → Prop} (im : ImmP H H') (t : θ'.take fl = θ.take fl) {σ : St} {H2 : Hp} (h : nxOf K B fl θ' H' N σ H2) : nxOf K B fl θ H N σ H2 :=
  let ⟨ds, ms, θ2, L, im2, t2, S, q⟩ := h
  ⟨ds, ms, θ2, L, im.trans im2, t2.trans t, S, q⟩
theorem rtOf.trans {R : D → List Ob → Prop} (im : ImmP H H') (t : θ'.take fl = θ.take fl) {v : V} {H2 : Hp} (h : rtOf K B fl θ' H' R v H2) : rtOf K B fl θ H R v H2 :=
  let ⟨d, ms, θ2, r, im2, t2, S, q⟩ := h
  ⟨d, ms, θ2, r, im.trans im2, t2.trans t, S, q⟩
theorem nxOf.imp {N N' : List (Option D) → List Ob → Prop} (hq : ∀ d m, N d m → N' d m) {σ : St} {H2 : Hp} (h : nxOf K B fl θ H N σ H2) : nxOf K B fl θ H N' σ H2 :=
  let ⟨ds, ms, θ2, L, im2, t2, S, q⟩ := h
  ⟨ds, ms, θ2, L, im2, t2, S, hq _ _ q⟩
theorem take_app {more : List Addr} (h : fl ≤ θ.length) : (θ ++ more).take fl = θ.take fl := List.take_append_of_le_length h
end
section
variable {X : Cx} {B : Bs} {fl : Nat} {ds : List (Option D)} {ms : List Ob} {E : En} {pos : Pos}
theorem WSs.moved {st : List Stmt} {θ θ' : List Addr} {H H' : Hp} {σ : St} (h : WSs X B fl ds ms st E) (hf : fl ≤ θ'.length) (S : Sat X.K B θ' ms H') (L : Slr X.K θ' H' ds σ) (im : ImmP H H') (t : θ'.take fl = θ.take fl) :
    tssCan X st (enOf X.K B fl θ H E) σ H' :=
  (h σ H' θ' hf S L).imp (fun _ _ q => nxOf.trans im t q) (fun _ _ q => rtOf.trans im t q) (fun _ _ q => nxOf.trans im t q) (fun _ _ q => nxOf.trans im t q)
theorem wss_nil (q : E.nx ds ms) : WSs X B fl ds ms [] E := .mk fun σ H θ hf S L => can_pss pss_nil (show nxOf X.K B fl θ H E.nx σ H from ⟨ds, ms, θ, L, ImmP.refl _, rfl, S, q⟩)
theorem len_of {θ θ' : List Addr} (t : θ'.take fl = θ.take fl) (h : fl ≤ θ.length) : fl ≤ θ'.length := by
  have := congrArg List.length t
  rw [List.length_take, List.length_take] at this
  omega
theorem wss_cons {st : Stmt} {rest : List Stmt} (h : WS X B fl ds ms st { E with nx := fun ds' m' => WSs X B fl ds' m' rest E }) : WSs X B fl ds ms (st :: rest) E := .mk fun σ H θ hf S L =>
  can_pss (pss_cons ps_can pss_can) ((h σ H θ hf S L).imp (fun σ' H' ⟨ds', ms', θ', L', im, t, S', q⟩ => q.moved (len_of t hf) S' L' im t) (fun _ _ q => q) (fun _ _ q => q) (fun _ _ q => q))
theorem wss_one {st : Stmt} (h : WS X B fl ds ms st E) : WSs X B fl ds ms [st] E := .mk fun σ H θ hf S L => can_pss (pss_one ps_can) (h σ H θ hf S L)
theorem ws_pass (q : E.nx ds ms) : WS X B fl ds ms (.Pass pos) E := .mk fun σ H θ hf S L => can_ps ps_pass (show nxOf X.K B fl θ H E.nx σ H from ⟨ds, ms, θ, L, ImmP.refl _, rfl, S, q⟩)
theorem ws_break (q : E.bk ds ms) : WS X B fl ds ms (.Break pos) E := .mk fun σ H θ hf S L => can_ps ps_break (show nxOf X.K B fl θ H E.bk σ H from ⟨ds, ms, θ, L, ImmP.refl _, rfl, S, q⟩)
theorem ws_doc {x : Str} {j : Nat} {pos' : Pos} (q : E.nx ds ms) : WS X B fl ds ms (.Expr (.Constant (.str x) j pos) pos') E := .mk fun σ H θ hf S L => can_ps ps_doc (show nxOf X.K B fl θ H E.nx σ H from ⟨ds, ms, θ, L, ImmP.refl _, rfl, S, q⟩)
theorem ws_ret {e : Expr} (h : WE X B ds ms e E.rt) : WS X B fl ds ms (.Return (some e) pos) E := .mk fun σ H θ hf S L => can_ps (ps_ret pe_can) (h.bind S L fun d m v H1 more q r im S1 L1 =>
  ⟨d, m, θ ++ more, r, im, take_app hf, S1, q⟩)
theorem ws_retN (q : E.rt .non ms) : WS X B fl ds ms (.Return none pos) E := .mk fun σ H θ hf S L => can_ps ps_retN ⟨.non, ms, θ, mk_non, ImmP.refl _, rfl, S, q⟩
theorem ws_expr {e : Expr} (h : WE X B ds ms e fun _ m => E.nx ds m) (hs : swapsWith e none pos.line X.env = pure false := by rfl) : WS X B fl ds ms (.Expr e pos) E := .mk fun σ H θ hf S L => can_ps (ps_expr pe_can hs) (h.bind S L fun d m v H1 more q r im S1 L1 =>
  ⟨ds, m, θ ++ more, L1, im, take_app hf, S1, q⟩)
theorem ws_set (i : Nat) {x : Str} {e : Expr} {pos' : Pos} (hN : X.N.Nodup) (hi : X.N[i]? = some x) (hx : Loc X.env.scope x) (hf' : X.fn x = true ∨ X.env.scope.names.lookup x = some .local) (h : WE X B ds ms e fun d m => E.nx (ds.set i (some d)) m)
    (hs : swapsWith e (some (.Name x pos')) pos.line X.env = pure false := by rfl) : WS X B fl ds ms (.Assign [.Name x pos'] e pos) E := .mk fun σ H θ hf S L =>
  can_ps (ps_set hN hi hx pe_can hs hf') (h.bind S L fun d m v H1 more q r im S1 L1 => ⟨ds.set i (some d), m, θ ++ more, L1.set r i, im, take_app hf, S1, q⟩)
theorem ws_if {c : Expr} {a b : List Stmt} (h : WT X B ds ms c fun k m => (k = true → WSs X B fl ds m a E) ∧ (k = false → WSs X B fl ds m b E)) : WS X B fl ds ms (.If c a b pos) E := .mk fun σ H θ hf S L =>
  can_ps (ps_if pt_can pss_can pss_can) (h.bind S L fun k m H1 more q im S1 L1 => by
    have hf2 : fl ≤ (θ ++ more).length := by rw [List.length_append]; omega
    cases k with
    | true => exact (q.1 rfl).moved hf2 S1 L1 im (take_app hf)
    | false => exact (q.2 rfl).moved hf2 S1 L1 im (take_app hf))

/-! ## targets -/
theorem WG.pg {tg : Expr} {t : TG} {d : D} {N : List (Option D) → List Ob → Prop} (h : PG X tg t) (q : ∀ σ H θ v, Sat X.K B θ ms H → Slr X.K θ H ds σ → Rep X.K θ H d v →
    t v σ H fun σ' H' => ∃ ds' ms' more, Slr X.K (θ ++ more) H' ds' σ' ∧ ImmP H H' ∧ Sat X.K B (θ ++ more) ms' H' ∧ N ds' ms') : WG X B ds ms tg d N := .mk fun σ H θ v S L r => can_pg h (q σ H θ v S L r)
theorem WG.bind {tg : Expr} {d : D} {N : List (Option D) → List Ob → Prop} (h : WG X B ds ms tg d N) {σ : St} {H : Hp} {θ : List Addr} {v : V} (S : Sat X.K B θ ms H) (L : Slr X.K θ H ds σ) (r : Rep X.K θ H d v) {R : St → Hp → Prop}
    (q : ∀ ds' ms' more σ' H', N ds' ms' → Slr X.K (θ ++ more) H' ds' σ' → ImmP H H' → Sat X.K B (θ ++ more) ms' H' → R σ' H') : tgCan X tg v σ H R :=
  (h σ H θ v S L r).mono fun σ' H' ⟨ds', ms', more, L', im, S', n⟩ => q ds' ms' more σ' H' n L' im S'
theorem wg_name (i : Nat) {x : Str} {d : D} {N : List (Option D) → List Ob → Prop} (hN : X.N.Nodup) (hi : X.N[i]? = some x) (hx : Loc X.env.scope x) (hf' : X.fn x = true ∨ X.env.scope.names.lookup x = some .local) (q : N (ds.set i (some d)) ms) : WG X B ds ms (.Name x pos) d N :=
  WG.pg (pg_name hN hi hx hf') fun σ H θ v S L r => ⟨ds.set i (some d), ms, [], by rw [List.append_nil]; exact L.set r i, ImmP.refl _, by rw [List.append_nil]; exact S, q⟩
/-- several targets -/
def WGs (X : Cx) (B : Bs) (ds : List (Option D)) (ms : List Ob) (es : List Expr) (dl : List D) (N : List (Option D) → List Ob → Prop) : Prop :=
  match es, dl with
  | [], [] => N ds ms
  | e :: es, d :: dl => WG X B ds ms e d fun ds' ms' => WGs X B ds' ms' es dl N
  | _, _ => False
def tgsCan (X : Cx) (es : List Expr) : TGs := fun vs σ H Q => ∀ pins s us, Inv X pins σ H s → Vals vs us → wpAny (model X.prog X.w) X.A (assignInOrder ((assignEach es X.env).map (·.2)) us) (fun _ s' => ∃ σ' H', Inv X pins σ' H' s' ∧ Q σ' H') X.xe s
theorem pgs_can {es : List Expr} : PGs X es (tgsCan X es) := ⟨fun pins s σ H vs us Q I r h => h pins s us I r⟩
theorem WGs.can {N : List (Option D) → List Ob → Prop} : ∀ (es : List Expr) (hst : ∀ e es', (assignEach (e :: es') X.env).map (·.2) = assign e X.env :: (assignEach es' X.env).map (·.2) ∨ ¬ ∃ pre, es = pre ++ e :: es') {dl : List D} {ds : List (Option D)} {ms : List Ob}, WGs X B ds ms es dl N →
    ∀ σ H θ vs, Sat X.K B θ ms H → Slr X.K θ H ds σ → Reps X.K θ H dl vs → tgsCan X es vs σ H fun σ' H' => ∃ ds' ms' more, Slr X.K (θ ++ more) H' ds' σ' ∧ ImmP H H' ∧ Sat X.K B (θ ++ more) ms' H' ∧ N ds' ms'
  | [], _, [], ds, ms, h, σ, H, θ, vs, S, L, r => by
    intro pins s us I rv
    rw [reps_nil r] at rv
    exact pgs_nil.run pins s σ H [] us _ I rv ⟨rfl, ds, ms, [], by rw [List.append_nil]; exact L, ImmP.refl _, by rw [List.append_nil]; exact S, h⟩
  | [], _, _ :: _, _, _, h, _, _, _, _, _, _, _ => h.elim
  | e :: es, _, [], _, _, h, _, _, _, _, _, _, _ => h.elim
  | e :: es, hst, d :: dl, ds, ms, h, σ, H, θ, vs, S, L, r => by
    obtain ⟨v, vs', rfl, r1, rs⟩ := reps_cons r
    intro pins s us I rv
    refine (pgs_cons pg_can pgs_can ((hst e es).resolve_right fun z => z ⟨[], rfl⟩)).run pins s σ H _ us _ I rv ⟨v, vs', rfl, ?_⟩
    refine WG.bind (show WG X B ds ms e d _ from h) S L r1 fun ds' ms' more σ' H' n L' im S' => ?_
    intro pins s us I rv
    have hst' : ∀ e2 es', (assignEach (e2 :: es') X.env).map (·.2) = assign e2 X.env :: (assignEach es' X.env).map (·.2) ∨ ¬ ∃ pre, es = pre ++ e2 :: es' := fun e2 es' => (hst e2 es').imp id fun z w => z (by
      obtain ⟨pre, q⟩ := w
      exact ⟨e :: pre, by rw [q]; rfl⟩)
    have := WGs.can es hst' n σ' H' _ vs' S' L' (Reps.mono (Le.app _ _) im _ _ rs) pins s us I rv
    exact thn this fun _ _ ⟨σ2, H2, I2, ds2, ms2, more2, L2, im2, S2, q2⟩ => ⟨σ2, H2, I2, ds2, ms2, more ++ more2, by rw [← List.append_assoc]; exact L2, im.trans im2, by rw [← List.append_assoc]; exact S2, q2⟩
/-- no starred one among them -/
def noStar : List Expr → Bool
  | [] => true
  | .Starred _ _ :: _ => false
  | _ :: es => noStar es
theorem noStar_each : ∀ (es : List Expr), noStar es = true → ∀ e es', (assignEach (e :: es') X.env).map (·.2) = assign e X.env :: (assignEach es' X.env).map (·.2) ∨ ¬ ∃ pre, es = pre ++ e :: es' := fun es hn e es' => by
  by_cases h : ∃ pre, es = pre ++ e :: es'
  · left
    obtain ⟨pre, rfl⟩ := h
    have : noStar (e :: es') = true := by
      induction pre with
      | nil => exact hn
      | cons p pre ih =>
        apply ih
        cases p <;> first | exact hn | (unfold noStar at hn; cases hn)
    cases e <;> first | rfl | (unfold noStar at this; cases this)
  · exact .inr h
/-- (a, b, ..) = a tuple -/
theorem wg_tup {es : List Expr} {k : Nat} {dl : List D} {N : List (Option D) → List Ob → Prop} (hc : X.calm = true) (hn : noStar es = true) (hl : dl.length = (assignEach es X.env).length) (h : WGs X B ds ms es dl N)
    (hst : (assignEach es X.env).findIdx? (·.1) = none := by rfl) : WG X B ds ms (.Tuple es k pos) (.tup dl) N :=
  WG.pg (pg_tup hc pgs_can rfl hst) fun σ H θ v S L r => by
    obtain ⟨a, vs, rfl, s, rs⟩ := rep_tup r
    exact ⟨a, vs, rfl, s, by rw [rs.length]; exact hl, h.can es (noStar_each es hn) σ H θ vs S L rs⟩
/-- o.f = -/
def gAttr (K : PySem.W.Frag) (to : TE) (f : Str) : TG := fun v σ H Q => to σ H fun x H1 => ∃ a C dx fs, x = .ref a ∧ H1 a = some (.ins C dx fs) ∧ Cls K C ∧ NoAttr K C f ∧ fs.length < 1000 ∧ Q σ (upd H1 a (.ins C dx (L2.putF f v fs)))
theorem pg_attr {o : Expr} {f : Str} {to : TE} (ho : PE X o to) (ha : ∀ v, assign (.Attribute o f pos) X.env v = (do
      let ov ← holding [v] (eval o X.env)
      standAt pos.atName
      holding [v, ov] (setAttr ov f v)
      release [v, ov] []) := by intro _; rfl) : PG X (.Attribute o f pos) (gAttr X.K to f) := by
  refine ⟨fun pins s σ H v u Q I r h => ?_⟩
  rw [ha]
  refine wpAny_bind (wpAny_holding (thn (ho.run pins s σ H _ I h) fun ov s1 ⟨x, H1, I1, rx, a, C, dx, fs, ex, ea, c, n, l, q⟩ => ?_))
  subst ex
  obtain rfl : ov = Value.ref a := rx
  refine wpAny_bind (wpAny_standAt (wpAny_bind (wpAny_holding ?_)))
  exact setattr_ok I1 ea c n l r fun s3 I3 => wpAny_release ⟨σ, _, I3, q⟩
theorem sat_ins {K : PySem.W.Frag} {θ : List Addr} {H : Hp} {k : Nat} {cn : Str} {a C dx : Addr} {fs : List (Str × D)} {vs : List (Str × V)} (hcn : ClsN K cn C) (S : Sat K B θ ms H) (hk : θ[k]? = some a) (r : RepKV K θ H fs vs) :
    Sat K B θ (ms.set k (.ins cn fs)) (upd H a (.ins C dx vs)) ∧ ImmP H (upd H a (.ins C dx vs)) := by
  obtain ⟨u, hu, hi⟩ := S.tracked (List.mem_of_getElem? hk)
  exact S.write (ob := .ins cn fs) hk ⟨C, dx, vs, hcn, upd_same, RepKV.mono (Le.refl _) (ImmP.mut hu hi) _ _ r⟩
theorem wg_attr {o : Expr} {f : Str} {d : D} {N : List (Option D) → List Ob → Prop} (h : WE X B ds ms o fun e m => ∃ k cn C fs, e = .obj k ∧ m[k]? = some (.ins cn fs) ∧ ClsN X.K cn C ∧ Cls X.K C ∧ NoAttr X.K C f ∧ fs.length < 1000 ∧ N ds (m.set k (.ins cn (putFD f d fs))))
    (ha : ∀ v, assign (.Attribute o f pos) X.env v = (do
      let ov ← holding [v] (eval o X.env)
      standAt pos.atName
      holding [v, ov] (setAttr ov f v)
      release [v, ov] []) := by intro _; rfl) : WG X B ds ms (.Attribute o f pos) d N :=
  WG.pg (pg_attr pe_can ha) fun σ H θ v S L r => h.bind S L fun e m w H1 more q r1 im S1 L1 => by
    obtain ⟨k, cn, C, fs, rfl, hk, hcn, c, n, l, q⟩ := q
    obtain ⟨a, e1, rfl⟩ := rep_obj r1
    obtain ⟨C2, dx, vs, hcn2, s, rs⟩ := S1.obs k _ a hk e1
    cases hcn.inj hcn2
    obtain ⟨S2, im2⟩ := sat_ins (C := C) (dx := dx) hcn S1 e1 (rs.putF (f := f) (Rep.mono (Le.app _ _) im _ _ r))
    exact ⟨a, C, dx, vs, rfl, s, c, n, by rw [rs.length]; exact l, ds, _, more, L1.mono (Le.refl _) im2, im.trans im2, S2, q⟩
/-- xs[i] = -/
theorem wg_subL {o i : Expr} {d : D} {N : List (Option D) → List Ob → Prop} (h : WE X B ds ms o fun e m => WE X B ds m i fun f m2 => ∃ k n j xs, e = .obj k ∧ f = .int n ∧ m2[k]? = some (.lst xs) ∧ ixN xs.length n = some j ∧ N ds (m2.set k (.lst (xs.set j d))))
    (ha : ∀ v, assign (.Subscript o i pos) X.env v = (do
      let ov ← holding [v] (eval o X.env)
      let iv ← holding [v, ov] (eval i X.env)
      standAt pos
      holding [v, ov, iv] (setItem ov iv v)
      release [v, ov, iv] []) := by intro _; rfl) : WG X B ds ms (.Subscript o i pos) d N :=
  WG.pg (pg_sub pe_can pe_can set_list ha) fun σ H θ v S L r => h.bind S L fun e m w H1 more q r1 im S1 L1 => q.bind S1 L1 fun f m2 w2 H2 more2 q2 r2 im2 S2 L2 => by
    obtain ⟨k, n, j, xs, rfl, rfl, hk, hj, q2⟩ := q2
    obtain ⟨a, e1, rfl⟩ := rep_obj (Rep.mono (Le.app _ more2) im2 _ _ r1)
    obtain ⟨vs, s, rs⟩ := S2.obs k _ a hk e1
    have r' : Rep X.K (θ ++ more ++ more2) H2 d v := Rep.mono (Le.app _ _) im2 _ _ (Rep.mono (Le.app _ _) im _ _ r)
    obtain ⟨u, hu, hi⟩ := S2.tracked (List.mem_of_getElem? e1)
    have im3 : ImmP H2 (upd H2 a (.lst (vs.set j v))) := ImmP.mut hu hi
    obtain ⟨S3, _⟩ := S2.write (o := .lst (vs.set j v)) (ob := .lst (xs.set j d)) e1 ⟨vs.set j v, upd_same, Reps.mono (Le.refl _) im3 _ _ (rs.set j r')⟩
    refine ⟨a, vs, n, j, rfl, rep_int r2, s, by rw [rs.length]; exact hj, ds, _, more ++ more2, ?_, (im.trans im2).trans im3, ?_, q2⟩
    · rw [← List.append_assoc]; exact L2.mono (Le.refl _) im3
    · rw [← List.append_assoc]; exact S3
/-- target = e -/
theorem ws_asg {tg e : Expr} (h : WE X B ds ms e fun d m => WG X B ds m tg d E.nx) (hs : swapsWithSole [tg] e pos.line X.env = pure false := by rfl) (hw : swappedStores [tg] e X.env = pure none := by rfl)
    (h1 : (assignEach [tg] X.env).map (·.2) = [assign tg X.env] := by rfl) : WS X B fl ds ms (.Assign [tg] e pos) E := .mk fun σ H θ hf S L =>
  can_ps (ps_asg pe_can pg_can hs hw h1) (h.bind S L fun d m v H1 more q r im S1 L1 => q.bind S1 L1 r fun ds' ms' more2 σ' H2 n L2 im2 S2 =>
    ⟨ds', ms', θ ++ more ++ more2, L2, im.trans im2, by rw [List.append_assoc]; exact take_app hf, S2, n⟩)
/-- o.f = e -/
theorem ws_attr {o value : Expr} {f : Str} {pos' : Pos} (h : WE X B ds ms value fun d m => WE X B ds m o fun e m2 => ∃ k cn C fs, e = .obj k ∧ m2[k]? = some (.ins cn fs) ∧ ClsN X.K cn C ∧ Cls X.K C ∧ NoAttr X.K C f ∧ fs.length < 1000 ∧ E.nx ds (m2.set k (.ins cn (putFD f d fs))))
    (hs : swapsWith value (some (.Attribute o f pos')) pos.line X.env = pure false := by rfl) : WS X B fl ds ms (.Assign [.Attribute o f pos'] value pos) E := .mk fun σ H θ hf S L =>
  can_ps (ps_fld pe_can pe_can hs) (h.bind S L fun d m v H1 more q r im S1 L1 => q.bind S1 L1 fun e m2 w H2 more2 q2 r2 im2 S2 L2 => by
    obtain ⟨k, cn, C, fs, rfl, hk, hcn, c, n, l, q2⟩ := q2
    obtain ⟨a, e1, rfl⟩ := rep_obj r2
    obtain ⟨C2, dx, vs, hcn2, s, rs⟩ := S2.obs k _ a hk e1
    cases hcn.inj hcn2
    obtain ⟨S3, im3⟩ := sat_ins (C := C) (dx := dx) hcn S2 e1 (rs.putF (f := f) (Rep.mono (Le.app _ _) im2 _ _ r))
    exact ⟨a, C, dx, vs, rfl, s, c, n, by rw [rs.length]; exact l, ds, _, θ ++ more ++ more2, L2.mono (Le.refl _) im3, (im.trans im2).trans im3, by rw [List.append_assoc]; exact take_app hf, S3, q2⟩)
/-- a, b = x, y: plain local names -/
theorem ws_par (i j : Nat) {x y : Str} {a b : Expr} {px py pt : Pos} {kt k2 pt2} (hc : X.calm = true) (hN : X.N.Nodup) (hi : X.N[i]? = some x) (hj : X.N[j]? = some y) (hij : i ≠ j)
    (hx : X.env.scope.names.lookup x = some .local) (hy : X.env.scope.names.lookup y = some .local)
    (h : WE X B ds ms a fun d m => WE X B ds m b fun e m2 => E.nx ((ds.set i (some d)).set j (some e)) m2)
    (hw : swappedStores [.Tuple [.Name x px, .Name y py] kt pt] (.Tuple [a, b] k2 pt2) X.env = pure (some [x, y]) := by rfl)
    (hsa : starEach [a, b] X.env = (false, eval a X.env) :: starEach [b] X.env := by rfl) (hsb : starEach [b] X.env = (false, eval b X.env) :: starEach [] X.env := by rfl)
    (hs : swapsWithSole [.Tuple [.Name x px, .Name y py] kt pt] (.Tuple [a, b] k2 pt2) pos.line X.env = pure false := by rfl) :
    WS X B fl ds ms (.Assign [.Tuple [.Name x px, .Name y py] kt pt] (.Tuple [a, b] k2 pt2) pos) E := .mk fun σ H θ hf S L =>
  can_ps (ps_par hc hN hi hj hij hx hy (pa_cons pe_can (pa_cons pe_can pa_nil hsb) hsa) hw hs) (h.bind S L fun d m v H1 more q r im S1 L1 => q.bind S1 L1 fun e m2 w H2 more2 q2 r2 im2 S2 L2 =>
    ⟨v, w, rfl, _, m2, θ ++ more ++ more2, (L2.set (Rep.mono (Le.app _ _) im2 _ _ r) i).set r2 j, im.trans im2, by rw [List.append_assoc]; exact take_app hf, S2, q2⟩)
/-- name op= e -/
theorem ws_aug (i : Nat) {x : Str} {e : Expr} {op : Operator} {pos' : Pos} {d0 : D} (hN : X.N.Nodup) (hi : X.N[i]? = some x) (hx : Loc X.env.scope x) (hf' : X.fn x = true ∨ X.env.scope.names.lookup x = some .local) (hd : ds[i]? = some (some d0))
    (h : WE X B ds ms e fun d m => WO X B m (inplaceOp op) d0 d fun r m2 => E.nx (ds.set i (some r)) m2) : WS X B fl ds ms (.AugAssign (.Name x pos') op e pos) E := .mk fun σ H θ hf S L => by
  obtain ⟨v0, e0, r0⟩ := L.at_ i d0 hd
  refine can_ps (ps_aug (ti := roCan X (inplaceOp op)) hN hi hx pe_can (fun pins s σ H x y v u Q I rx ry h => h pins s σ v u I rx ry) hf') ⟨v0, e0, ?_⟩
  exact h.bind S L fun d m v H1 more q r im S1 L1 => (q H1 _ v0 v S1 (Rep.mono (Le.app _ _) im _ _ r0) r).mono fun z H2 ⟨d2, m2, more2, r2, im2, S2, q2⟩ =>
    ⟨ds.set i (some d2), m2, θ ++ more ++ more2, (L1.mono (Le.app _ _) im2).set r2 i, im.trans im2, by rw [List.append_assoc]; exact take_app hf, S2, q2⟩

/-! ## forgetting -/
mutual
def D.cl (n : Nat) : D → Bool
  | .tup ds => clAll n ds
  | .rol ds => clAll n ds
  | .rod _ ds => clAll n ds
  | .obj k => decide (k < n)
  | _ => true
def clAll (n : Nat) : List D → Bool
  | [] => true
  | d :: ds => D.cl n d && clAll n ds
end
def clKV {κ : Type} (n : Nat) : List (κ × D) → Bool
  | [] => true
  | (_, d) :: r => D.cl n d && clKV n r
def Ob.cl (n : Nat) : Ob → Bool
  | .lst ds => clAll n ds
  | .dK kvs => clKV n kvs
  | .dT kvs => clKV n kvs
  | .ins _ fs => clKV n fs
mutual
theorem Rep.clos {K : PySem.W.Frag} {θ : List Addr} {H : Hp} : ∀ (d : D) (v : V), Rep K θ H d v → d.cl θ.length = true
  | .non, _, _ => rfl
  | .bl _, _, _ => rfl
  | .int _, _, _ => rfl
  | .str _, _, _ => rfl
  | .ref _, _, _ => rfl
  | .ty _, _, _ => rfl
  | .obj k, _, h => by
    unfold Rep at h
    obtain ⟨a, e, _⟩ := h
    exact decide_eq_true (List.getElem?_eq_some_iff.mp e).1
  | .tup ds, _, h => by
    unfold Rep at h
    obtain ⟨a, vs, _, _, r⟩ := h
    unfold D.cl; exact Reps.clos ds vs r
  | .rol ds, _, h => by
    unfold Rep at h
    obtain ⟨a, vs, _, _, r⟩ := h
    unfold D.cl; exact Reps.clos ds vs r
  | .rod ks ds, _, h => by
    unfold Rep at h
    obtain ⟨a, vs, _, _, _, r⟩ := h
    unfold D.cl; exact Reps.clos ds vs r
theorem Reps.clos {K : PySem.W.Frag} {θ : List Addr} {H : Hp} : ∀ (ds : List D) (vs : List V), Reps K θ H ds vs → clAll θ.length ds = true
  | [], _, _ => rfl
  | d :: ds, _, h => by
    unfold Reps at h
    obtain ⟨v, vs', _, r, rs⟩ := h
    unfold clAll
    rw [Rep.clos d v r, Reps.clos ds vs' rs]; rfl
end
theorem RepKV.clos {κ : Type} {K : PySem.W.Frag} {θ : List Addr} {H : Hp} : ∀ (ds : List (κ × D)) (vs : List (κ × V)), RepKV K θ H ds vs → clKV θ.length ds = true
  | [], _, _ => rfl
  | (k, d) :: ds, _, h => by
    obtain ⟨v, vs', _, r, rs⟩ := h
    unfold clKV
    rw [Rep.clos d v r, RepKV.clos ds vs' rs]; rfl
theorem sat_clos {K : PySem.W.Frag} {B : Bs} {θ : List Addr} {ms : List Ob} {H : Hp} (S : Sat K B θ ms H) : ms.all (Ob.cl ms.length) = true := by
  rw [← S.len]
  refine List.all_eq_true.mpr fun ob h => ?_
  obtain ⟨k, hk, e⟩ := List.getElem_of_mem h
  obtain ⟨a, _, r⟩ := S.at (k := k) (ob := ob) (by rw [List.getElem?_eq_getElem hk, e])
  cases ob with
  | lst ds => obtain ⟨vs, _, r⟩ := r; exact Reps.clos _ _ r
  | dK ds => obtain ⟨vs, _, r⟩ := r; exact RepKV.clos _ _ r
  | dT ds => obtain ⟨vs, _, r⟩ := r; exact RepKV.clos _ _ r
  | ins C ds => obtain ⟨_, _, vs, _, _, r⟩ := r; exact RepKV.clos _ _ r
section
variable {K : PySem.W.Frag} {θ : List Addr} {H : Hp} {n : Nat}
mutual
theorem Rep.cut : ∀ (d : D) (v : V), d.cl n = true → Rep K θ H d v → Rep K (θ.take n) H d v
  | .non, _, _, h => by unfold Rep at *; exact h
  | .bl _, _, _, h => by unfold Rep at *; exact h
  | .int _, _, _, h => by unfold Rep at *; exact h
  | .str _, _, _, h => by unfold Rep at *; exact h
  | .ref _, _, _, h => by unfold Rep at *; exact h
  | .ty _, _, _, h => by unfold Rep at *; exact h
  | .obj k, _, c, h => by
    unfold Rep at *
    obtain ⟨a, e, r⟩ := h
    exact ⟨a, by rw [List.getElem?_take_of_lt (by simpa [D.cl] using c)]; exact e, r⟩
  | .tup ds, _, c, h => by
    unfold Rep at *
    obtain ⟨a, vs, e, s, r⟩ := h
    exact ⟨a, vs, e, s, Reps.cutA ds vs (by simpa [D.cl] using c) r⟩
  | .rol ds, _, c, h => by
    unfold Rep at *
    obtain ⟨a, vs, e, s, r⟩ := h
    exact ⟨a, vs, e, s, Reps.cutA ds vs (by simpa [D.cl] using c) r⟩
  | .rod ks ds, _, c, h => by
    unfold Rep at *
    obtain ⟨a, vs, e, s, l, r⟩ := h
    exact ⟨a, vs, e, s, l, Reps.cutA ds vs (by simpa [D.cl] using c) r⟩
theorem Reps.cutA : ∀ (ds : List D) (vs : List V), clAll n ds = true → Reps K θ H ds vs → Reps K (θ.take n) H ds vs
  | [], _, _, h => by unfold Reps at *; exact h
  | d :: ds, _, c, h => by
    unfold Reps at *
    obtain ⟨v, vs', e, r, rs⟩ := h
    have c' : d.cl n = true ∧ clAll n ds = true := by simpa [clAll] using c
    exact ⟨v, vs', e, Rep.cut d v c'.1 r, Reps.cutA ds vs' c'.2 rs⟩
end
theorem RepKV.cut {κ : Type} : ∀ (ds : List (κ × D)) (vs : List (κ × V)), clKV n ds = true → RepKV K θ H ds vs → RepKV K (θ.take n) H ds vs
  | [], _, _, h => h
  | (k, d) :: ds, _, c, h => by
    obtain ⟨v, vs', e, r, rs⟩ := h
    have c' : d.cl n = true ∧ clKV n ds = true := by simpa [clKV] using c
    exact ⟨v, vs', e, Rep.cut d v c'.1 r, RepKV.cut ds vs' c'.2 rs⟩
theorem ObR.cut {a : Addr} : ∀ {ob : Ob}, ob.cl n = true → ObR K θ H a ob → ObR K (θ.take n) H a ob
  | .lst _, c, ⟨vs, h, r⟩ => ⟨vs, h, Reps.cutA _ _ c r⟩
  | .dK _, c, ⟨vs, h, r⟩ => ⟨vs, h, RepKV.cut _ _ c r⟩
  | .dT _, c, ⟨vs, h, r⟩ => ⟨vs, h, RepKV.cut _ _ c r⟩
  | .ins _ _, c, ⟨C, dx, vs, n, h, r⟩ => ⟨C, dx, vs, n, h, RepKV.cut _ _ c r⟩
theorem Sat.cut {B : Bs} {ms : List Ob} (S : Sat K B θ ms H) (hn : n ≤ ms.length) (c : (ms.take n).all (Ob.cl n) = true) : Sat K B (θ.take n) (ms.take n) H where
  len := by simp [S.len]
  nd := S.nd.sublist (List.take_sublist _ _)
  obs := fun k ob a h1 h2 => by
    have hk : k < n := by
      have := (List.getElem?_eq_some_iff.mp h1).1
      rw [List.length_take] at this; omega
    have c1 : ob.cl n = true := List.all_eq_true.mp c ob (List.mem_of_getElem? h1)
    rw [List.getElem?_take_of_lt hk] at h1 h2
    exact (S.obs k ob a h1 h2).cut c1
  keep := S.keep
  new := fun a ha => S.new a (List.mem_of_mem_take ha)
end
/-- the slots that may be kept -/
def keepD (n : Nat) (ds : List (Option D)) : List (Option D) := ds.map fun o => match o with
  | some d => if d.cl n then some d else none
  | none => none
/-- the new objects from n on are forgotten -/
theorem wss_drop (n : Nat) {st : List Stmt} (hn : n ≤ ms.length) (hf : fl ≤ n) (c : (ms.take n).all (Ob.cl n) = true) (ds' : List (Option D)) (hd : ds'.length = ds.length) (hs : ∀ (i : Nat) (d : D), ds'[i]? = some (some d) → ds[i]? = some (some d) ∧ D.cl n d = true)
    (h : WSs X B fl ds' (ms.take n) st E) : WSs X B fl ds ms st E := .mk fun σ H θ hfl S L => by
  have hl : n ≤ θ.length := by rw [S.len]; exact hn
  refine h.moved (θ' := θ.take n) (by rw [List.length_take]; omega) (S.cut hn c) ⟨hd.trans L.len, fun i d e => ?_⟩ (ImmP.refl _) (by rw [List.take_take]; congr 1; omega)
  obtain ⟨e1, c1⟩ := hs i d e
  obtain ⟨v, e2, r⟩ := L.at_ i d e1
  exact ⟨v, e2, Rep.cut d v c1 r⟩
end
end VL

namespace VL
open PySem PySem.Spec PyProof.Rows L2

/-! ## what is walked -/
def WalkD (K : PySem.W.Frag) (B : Bs) (θ : List Addr) (H : Hp) (J : It) (items : List D) (G : List Ob → Prop) : Prop :=
  ∃ Gh Y, Walk J items.length Gh Y ∧
    (∀ θ' ms' H', ImmP H H' → θ'.take θ.length = θ → Sat K B θ' ms' H' → G ms' → Gh H') ∧
    (∀ i x H' H2 θ' ms', i < items.length → ImmP H H' → θ'.take θ.length = θ → Sat K B θ' ms' H' → G ms' → Y i H' x H2 → ∃ d, items[i]? = some d ∧ Same H' H2 ∧ Sat K B θ' ms' H2 ∧ Rep K θ' H2 d x)
structure WI (X : Cx) (B : Bs) (ds : List (Option D)) (ms : List Ob) (tg e : Expr) (R : List D → (List Ob → Prop) → List Ob → Prop) : Prop where
  run : ∀ σ H θ, Sat X.K B θ ms H → Slr X.K θ H ds σ → tiCan X tg e σ H fun J H1 => ∃ items G m1 more, ImmP H H1 ∧ Sat X.K B (θ ++ more) m1 H1 ∧ R items G m1 ∧ WalkD X.K B (θ ++ more) H1 J items G
instance {X : Cx} {B : Bs} {ds : List (Option D)} {ms : List Ob} {tg e : Expr} {R : List D → (List Ob → Prop) → List Ob → Prop} : CoeFun (WI X B ds ms tg e R) (fun _ => ∀ σ H θ, Sat X.K B θ ms H → Slr X.K θ H ds σ → tiCan X tg e σ H fun J H1 => ∃ items G m1 more, ImmP H H1 ∧ Sat X.K B (θ ++ more) m1 H1 ∧ R items G m1 ∧ WalkD X.K B (θ ++ more) H1 J items G) := ⟨fun h => h.run⟩
section
variable {K : PySem.W.Frag} {B : Bs} {θ : List Addr} {ms : List Ob} {H : Hp}
theorem le_of_take {θ' : List Addr} (t : θ'.take θ.length = θ) : Le θ θ' := fun k a h => by
  have hk : k < θ.length := (List.getElem?_eq_some_iff.mp h).1
  rw [← List.getElem?_take_of_lt hk, t]; exact h
theorem le_len {θ' : List Addr} (t : θ'.take θ.length = θ) : θ.length ≤ θ'.length := by
  have := congrArg List.length t
  rw [List.length_take] at this
  omega
theorem walkD_tup {a : Addr} {vs : List V} {xs : List D} (s : SqT K H a vs) (rs : Reps K θ H xs vs) : WalkD K B θ H (Itt K a) xs fun _ => True := by
  refine ⟨fun H => SqT K H a vs, YAt vs, by rw [← rs.length]; exact walk_tup, fun θ' ms' H' im _ _ _ => im.sqt s, fun i x H' H2 θ' ms' hi im t S _ y => ?_⟩
  obtain ⟨rfl, hx⟩ := y
  obtain ⟨d, e, r⟩ := rs.getV hx
  exact ⟨d, e, Same.refl _, S, Rep.mono (le_of_take t) im _ _ r⟩
theorem walkD_list {k : Nat} {a : Addr} {vs : List V} {xs : List D} (hk : θ[k]? = some a) (s : H a = some (.lst vs)) (rs : Reps K θ H xs vs) : WalkD K B θ H (Itl K a) xs fun m => m[k]? = some (.lst xs) := by
  have key : ∀ {θ' : List Addr} {ms' : List Ob} {H' : Hp}, θ'.take θ.length = θ → Sat K B θ' ms' H' → ms'[k]? = some (.lst xs) → ∃ ws, H' a = some (.lst ws) ∧ Reps K θ' H' xs ws := fun {θ' ms' H'} t S hm => S.obs k _ a hm (le_of_take t k a hk)
  refine ⟨fun H' => ∃ ws θ', H' a = some (.lst ws) ∧ Reps K θ' H' xs ws, fun i H' x H2 => H2 = H' ∧ ∀ ws, H' a = some (.lst ws) → ws.length = xs.length → ws[i]? = some x, ⟨fun i H' hi q => ?_, fun H' q => ?_, fun i H' x H2 hi q y => ⟨y.1, fun ws h hl => y.2 ws (SqL.of h)⟩⟩, fun θ' ms' H' im t S hm => ?_, fun i x H' H2 θ' ms' hi im t S hm y => ?_⟩
  · obtain ⟨ws, θ', h, r⟩ := q
    have : i < ws.length := by rw [r.length]; exact hi
    exact ⟨ws, ws[i], SqL.of h, List.getElem?_eq_getElem this⟩
  · obtain ⟨ws, θ', h, r⟩ := q
    exact ⟨ws, SqL.of h, Nat.le_of_eq r.length⟩
  · obtain ⟨ws, h, r⟩ := key t S hm
    exact ⟨ws, θ', h, r⟩
  · obtain ⟨rfl, hx⟩ := y
    obtain ⟨ws, h, r⟩ := key t S hm
    obtain ⟨d, e, rd⟩ := r.getV (hx ws h r.length)
    exact ⟨d, e, Same.refl _, S, rd⟩
theorem walkD_rol {a : Addr} {vs : List V} {xs : List D} (s : SqLi K H a vs) (rs : Reps K θ H xs vs) : WalkD K B θ H (Itl K a) xs fun _ => True := by
  refine ⟨fun H => SqLi K H a vs, YAt vs, by rw [← rs.length]; exact walk_list.mono (fun H h => h.sq) fun _ _ _ _ _ _ y => y, fun θ' ms' H' im _ _ _ => im.sqli s, fun i x H' H2 θ' ms' hi im t S _ y => ?_⟩
  obtain ⟨rfl, hx⟩ := y
  obtain ⟨d, e, r⟩ := rs.getV hx
  exact ⟨d, e, Same.refl _, S, Rep.mono (le_of_take t) im _ _ r⟩
theorem walkD_range {lo : Int} {n : Nat} : WalkD K B θ H (Itr lo n) ((List.range n).map fun i => .int (lo + (i : Nat))) fun _ => True := by
  refine ⟨fun _ => True, YFn fun i => .int (lo + i), by rw [List.length_map, List.length_range]; exact walk_range, fun _ _ _ _ _ _ _ => trivial, fun i x H' H2 θ' ms' hi im t S _ y => ?_⟩
  obtain ⟨rfl, rfl⟩ := y
  rw [List.length_map, List.length_range] at hi
  exact ⟨.int (lo + (i : Nat)), by rw [List.getElem?_map, List.getElem?_range hi]; rfl, Same.refl _, S, mk_int⟩
theorem walkD_str {z : Str} : WalkD K B θ H (Its z) (z.cps.toList.map fun c => .str ⟨#[c]⟩) fun _ => True := by
  refine ⟨fun _ => True, _, by rw [List.length_map, Array.length_toList]; exact walk_str, fun _ _ _ _ _ _ _ => trivial, fun i x H' H2 θ' ms' hi im t S _ y => ?_⟩
  obtain ⟨rfl, c, hc, rfl⟩ := y
  exact ⟨.str ⟨#[c]⟩, by rw [List.getElem?_map, Array.getElem?_toList, hc]; rfl, Same.refl _, S, mk_str⟩
end
section
variable {X : Cx} {B : Bs} {ds : List (Option D)} {ms : List Ob} {tg e : Expr} {pos : Pos} {R : List D → (List Ob → Prop) → List Ob → Prop}
theorem wi_tup (h : WE X B ds ms e fun d m => ∃ xs, d = .tup xs ∧ R xs (fun _ => True) m) : WI X B ds ms tg e R := .mk fun σ H θ S L => can_pi (pi_tup pe_can) (h.bind S L fun d m v H1 more q r im S1 L1 => by
  obtain ⟨xs, rfl, q⟩ := q
  obtain ⟨a, vs, rfl, s, rs⟩ := rep_tup r
  exact ⟨a, rfl, ⟨vs, s⟩, xs, _, m, more, im, S1, q, walkD_tup s rs⟩)
theorem wi_list (h : WE X B ds ms e fun d m => ∃ k xs, d = .obj k ∧ m[k]? = some (.lst xs) ∧ R xs (fun m' => m'[k]? = some (.lst xs)) m) : WI X B ds ms tg e R := .mk fun σ H θ S L => can_pi (pi_list pe_can) (h.bind S L fun d m v H1 more q r im S1 L1 => by
  obtain ⟨k, xs, rfl, hk, q⟩ := q
  obtain ⟨a, e1, rfl⟩ := rep_obj r
  obtain ⟨vs, s, rs⟩ := S1.obs k _ a hk e1
  exact ⟨a, rfl, ⟨vs, SqL.of s⟩, xs, _, m, more, im, S1, q, walkD_list e1 s rs⟩)
theorem wi_rol (h : WE X B ds ms e fun d m => ∃ xs, d = .rol xs ∧ R xs (fun _ => True) m) : WI X B ds ms tg e R := .mk fun σ H θ S L => can_pi (pi_list pe_can) (h.bind S L fun d m v H1 more q r im S1 L1 => by
  obtain ⟨xs, rfl, q⟩ := q
  obtain ⟨a, vs, rfl, s, rs⟩ := rep_rol r
  exact ⟨a, rfl, ⟨vs, s.sq⟩, xs, _, m, more, im, S1, q, walkD_rol s rs⟩)
theorem wi_str (h : WE X B ds ms e fun d m => ∃ z, d = .str z ∧ R (z.cps.toList.map fun c => .str ⟨#[c]⟩) (fun _ => True) m) : WI X B ds ms tg e R := .mk fun σ H θ S L => can_pi (pi_str pe_can) (h.bind S L fun d m v H1 more q r im S1 L1 => by
  obtain ⟨z, rfl, q⟩ := q
  exact ⟨z, rep_str r, _, _, m, more, im, S1, q, walkD_str⟩)
theorem wi_range1 {a : Expr} {p : Pos} (hm : X.mg "range" = none) (hg : Gl X "range") (h : WE X B ds ms a fun d m => ∃ n : Int, d = .int n ∧ -(2 ^ 62) ≤ n ∧ n < 2 ^ 62 ∧ R ((List.range n.toNat).map fun i => .int (i : Nat)) (fun _ => True) m)
    (hs : starEach [a] X.env = (false, eval a X.env) :: starEach [] X.env := by rfl) : WI X B ds ms tg (.Call (.Name "range" p) [a] [] pos) R := .mk fun σ H θ S L => can_pi (pi_range1 hg hm (pa_cons pe_can pa_nil hs) hs) (h.bind S L fun d m v H1 more q r im S1 L1 => by
  obtain ⟨n, rfl, h1, h2, q⟩ := q
  refine ⟨n, by rw [rep_int r], h1, h2, _, _, m, more, im, S1, q, ?_⟩
  have := walkD_range (K := X.K) (B := B) (θ := θ ++ more) (H := H1) (lo := 0) (n := n.toNat)
  simpa using this)
theorem wi_range2 {a b : Expr} {p : Pos} (hm : X.mg "range" = none) (hg : Gl X "range") (h : WE X B ds ms a fun d m => WE X B ds m b fun e m2 => ∃ lo hi : Int, d = .int lo ∧ e = .int hi ∧ (-(2 ^ 62) ≤ lo ∧ lo < 2 ^ 62 ∧ -(2 ^ 62) ≤ hi ∧ hi < 2 ^ 62) ∧ R ((List.range (hi - lo).toNat).map fun i => .int (lo + (i : Nat))) (fun _ => True) m2)
    (hs : starEach [a, b] X.env = (false, eval a X.env) :: starEach [b] X.env := by rfl) (hs2 : starEach [b] X.env = (false, eval b X.env) :: starEach [] X.env := by rfl) : WI X B ds ms tg (.Call (.Name "range" p) [a, b] [] pos) R := .mk fun σ H θ S L => can_pi (pi_range2 hg hm (pa_cons pe_can (pa_cons pe_can pa_nil hs2) hs) (hs.trans (by rw [hs2]; rfl)) hs2) (h.bind S L fun d m v H1 more q r im S1 L1 => q.bind S1 L1 fun e m2 w H2 more2 q2 r2 im2 S2 L2 => by
  obtain ⟨lo, hi, rfl, rfl, hb, q⟩ := q2
  exact ⟨lo, hi, by rw [rep_int r, rep_int r2], hb, _, _, m2, more ++ more2, im.trans im2, by rw [← List.append_assoc]; exact S2, q, walkD_range⟩)

/-! ## for, while -/
theorem ws_for {fl : Nat} {body : List Stmt} {E : En} (hc : X.calm = true) (hp : PassesOwn (model X.prog X.w) X.A X.env X.xe)
    (h : WI X B ds ms tg e fun items G m => ∃ Iv : Nat → List (Option D) → List Ob → Prop, Iv 0 ds m ∧ (∀ i ds' m', Iv i ds' m' → G m') ∧
      (∀ i d ds' m', items[i]? = some d → Iv i ds' m' → WG X B ds' m' tg d fun ds2 m2 => WSs X B m.length ds2 m2 body ⟨Iv (i + 1), E.rt, E.nx, Iv (i + 1)⟩) ∧ (∀ ds' m', Iv items.length ds' m' → E.nx ds' m'))
    (hs : ∀ x, foldedSetIterable e X.env x = pure x := by intro _; rfl) : WS X B fl ds ms (.For tg e body [] pos) E := .mk fun σ H θ hf S L => by
  refine can_ps (ps_for hp hc pi_can pg_can pss_can hs) ?_
  intro pins s I
  refine thn (h σ H θ S L pins s I) fun v s1 h1 => thn h1 fun itv s2 h2 => ?_
  obtain ⟨it, fp, tn, J, H1, e1, I1, T, t0, hfp, items, G, m, more, im, S1, ⟨Iv, i0, iG, step, done⟩, Gh, Y, W, wg, wy⟩ := h2
  refine ⟨it, fp, tn, J, H1, e1, I1, T, t0, hfp, ?_⟩
  have hlen : (θ ++ more).length = m.length := S1.len
  have L1 := L.mono (Le.app θ more) im
  have tk : ∀ {θ' : List Addr}, θ'.take (θ ++ more).length = θ ++ more → θ'.take fl = θ.take fl := fun {θ'} t => by
    have hfl : fl ≤ (θ ++ more).length := by rw [List.length_append]; omega
    rw [← take_app (more := more) hf, ← t, List.take_take]
    congr 1
    omega
  refine for_it W (fun i σ' H' => ∃ ds' ms' θ', Slr X.K θ' H' ds' σ' ∧ ImmP H1 H' ∧ θ'.take (θ ++ more).length = θ ++ more ∧ Sat X.K B θ' ms' H' ∧ Iv i ds' ms')
    ⟨ds, m, θ ++ more, L1, ImmP.refl _, List.take_length, S1, i0⟩ (fun i σ' H' _ ⟨ds', ms', θ', L', im', t', S', q⟩ => wg θ' ms' H' im' t' S' (iG i ds' ms' q)) (fun i x σ' H' H2 hi p y => ?_) (fun σ' H' p => ?_)
  · obtain ⟨ds', ms', θ', L', im', t', S', q⟩ := p
    obtain ⟨d, hd, sm2, S2, r2⟩ := wy i x H' H2 θ' ms' hi im' t' S' (iG i ds' ms' q) y
    have im2 : ImmP H' H2 := fun a o h _ => sm2 a o h
    refine WG.bind (step i d ds' ms' hd q) S2 (L'.mono (Le.refl _) im2) r2 fun ds3 ms3 more3 σ3 H3 n3 L3 im3 S3 => ?_
    have hl3 : m.length ≤ (θ' ++ more3).length := by
      have := le_len t'
      rw [List.length_append]; omega
    have t3 : (θ' ++ more3).take (θ ++ more).length = θ ++ more := by rw [take_app (le_len t')]; exact t'
    have imA : ImmP H1 H3 := (im'.trans im2).trans im3
    refine (n3 σ3 H3 _ hl3 S3 L3).imp (fun σ4 H4 z => ?_) (fun v4 H4 z => ?_) (fun σ4 H4 z => ?_) (fun σ4 H4 z => ?_)
    · obtain ⟨ds4, ms4, θ4, L4, im4, t4, S4, q4⟩ := z
      exact ⟨ds4, ms4, θ4, L4, imA.trans im4, by rw [hlen]; rw [t4, ← hlen]; exact t3, S4, q4⟩
    · obtain ⟨d4, ms4, θ4, r4, im4, t4, S4, q4⟩ := z
      exact ⟨d4, ms4, θ4, r4, im.trans (imA.trans im4), tk (by rw [hlen]; rw [t4, ← hlen]; exact t3), S4, q4⟩
    · obtain ⟨ds4, ms4, θ4, L4, im4, t4, S4, q4⟩ := z
      exact ⟨ds4, ms4, θ4, L4, im.trans (imA.trans im4), tk (by rw [hlen]; rw [t4, ← hlen]; exact t3), S4, q4⟩
    · obtain ⟨ds4, ms4, θ4, L4, im4, t4, S4, q4⟩ := z
      exact ⟨ds4, ms4, θ4, L4, imA.trans im4, by rw [hlen]; rw [t4, ← hlen]; exact t3, S4, q4⟩
  · obtain ⟨ds', ms', θ', L', im', t', S', q⟩ := p
    exact ⟨ds', ms', θ', L', im.trans im', tk t', S', done ds' ms' q⟩
theorem ws_while {fl : Nat} {c : Expr} {body : List Stmt} {E : En} (hp : PassesOwn (model X.prog X.w) X.A X.env X.xe) (Iv : Nat → List (Option D) → List Ob → Prop) (m0 : Nat) (h0 : Iv m0 ds ms)
    (hs : ∀ n ds' m', Iv n ds' m' → WT X B ds' m' c fun k m2 => (k = true → WSs X B fl ds' m2 body ⟨fun ds3 m3 => ∃ n', n' < n ∧ Iv n' ds3 m3, E.rt, E.nx, fun ds3 m3 => ∃ n', n' < n ∧ Iv n' ds3 m3⟩) ∧ (k = false → E.nx ds' m2)) : WS X B fl ds ms (.While c body [] pos) E := .mk fun σ H θ hf S L => by
  refine can_ps (ps_while hp pt_can pss_can) ⟨fun n σ' H' => nxOf X.K B fl θ H (Iv n) σ' H', ⟨m0, ds, ms, θ, L, ImmP.refl _, rfl, S, h0⟩, ?_⟩
  rintro n σ' H' ⟨ds', ms', θ', L', im', t', S', q⟩
  refine (hs n ds' ms' q).bind S' L' fun k m2 H2 more q2 im2 S2 L2 => ?_
  have hf2 : fl ≤ (θ' ++ more).length := by
    have := len_of t' hf
    rw [List.length_append]; omega
  have t2 : (θ' ++ more).take fl = θ.take fl := (take_app (len_of t' hf)).trans t'
  cases k with
  | true =>
    refine ⟨fun σ3 H3 => nxOf X.K B fl θ H (fun ds3 m3 => ∃ n', n' < n ∧ Iv n' ds3 m3) σ3 H3, fun σ3 H3 z => ?_, ?_⟩
    · obtain ⟨ds3, ms3, θ3, L3, im3, t3, S3, n', hn', q3⟩ := z
      exact ⟨n', hn', ds3, ms3, θ3, L3, im3, t3, S3, q3⟩
    · exact WSs.moved (q2.1 rfl) hf2 S2 L2 (im'.trans im2) t2
  | false => exact ⟨ds', m2, θ' ++ more, L2, im'.trans im2, t2, S2, q2.2 rfl⟩
end
end VL

namespace VL
open PySem PySem.Spec PyProof.Rows L2

/-! ## another base -/
section
variable {K : PySem.W.Frag} {B : Bs} {θ θ' : List Addr} {ms ms' : List Ob} {H H' : Hp}
theorem Sat.here (S : Sat K B θ ms H) : Sat K ⟨H, θ⟩ θ ms H := ⟨S.len, S.nd, S.obs, fun _ _ h _ => h, fun a h => .inl h⟩
theorem Sat.rebase (S : Sat K B θ ms H) (S' : Sat K ⟨H, θ⟩ θ' ms' H') : Sat K B θ' ms' H' where
  len := S'.len
  nd := S'.nd
  obs := S'.obs
  keep := fun b o e n => S'.keep b o (S.keep b o e n) fun z => by
    rcases S.new b z with q | q
    · exact n q
    · rw [e] at q; cases q
  new := fun a ha => by
    rcases S'.new a ha with z | z
    · exact S.new a z
    · by_cases hT : a ∈ B.T0
      · exact .inl hT
      · right
        cases q : B.H0 a with
        | none => rfl
        | some o => have := S.keep a o q hT; rw [show H a = none from z] at this; cases this
theorem Sat.other (S : Sat K B θ ms H) {a : Addr} {o u : HO} (h : a ∉ θ) (hb : a ∈ B.T0 ∨ B.H0 a = none) (hu : H a = some u) (hi : imm u = false) : Sat K B θ ms (upd H a o) ∧ ImmP H (upd H a o) := by
  have im : ImmP H (upd H a o) := ImmP.mut hu hi
  refine ⟨⟨S.len, S.nd, fun k ob b h1 h2 => (S.obs k ob b h1 h2).keep (Le.refl _) im ?_, fun b w e n => ?_, S.new⟩, im⟩
  · rw [upd_ne]
    rintro rfl
    exact h (List.mem_of_getElem? h2)
  · rw [upd_ne]
    · exact S.keep b w e n
    · rintro rfl
      rcases hb with z | z
      · exact n z
      · rw [e] at z; cases z
theorem Sat.adopt (S : Sat K B θ ms H) {a : Addr} {ob : Ob} (h : a ∉ θ) (hb : a ∈ B.T0 ∨ B.H0 a = none) (hob : ObR K (θ ++ [a]) H a ob) : Sat K B (θ ++ [a]) (ms ++ [ob]) H where
  len := by simp [S.len]
  nd := by
    refine List.nodup_append.mpr ⟨S.nd, by simp, fun b hb' c hc e => ?_⟩
    have : c = a := by simpa using hc
    subst this; subst e
    exact h hb'
  obs := fun k ob' b h1 h2 => by
    by_cases hk : k < ms.length
    · rw [List.getElem?_append_left hk] at h1
      rw [List.getElem?_append_left (by rw [S.len]; exact hk)] at h2
      exact (S.obs k ob' b h1 h2).keep (Le.app _ _) (ImmP.refl _) rfl
    · have hk' : k = ms.length := by
        have := (List.getElem?_eq_some_iff.mp h1).1
        simp at this; omega
      subst hk'
      rw [← S.len] at h2
      simp at h1 h2
      subst h1; subst h2
      exact hob
  keep := S.keep
  new := fun b hb' => by
    rcases List.mem_append.mp hb' with z | z
    · exact S.new b z
    · have : b = a := by simpa using z
      subst this
      exact hb
end

/-! ## comprehensions -/
def wipeD (ds : List (Option D)) : List Nat → List (Option D)
  | [] => ds
  | v :: vs => (wipeD ds vs).set v none
theorem Slr.wipe {K : PySem.W.Frag} {θ : List Addr} {H : Hp} {ds : List (Option D)} {σ : St} (L : Slr K θ H ds σ) : ∀ vs : List Nat, Slr K θ H (wipeD ds vs) (L2.wipe σ vs)
  | [] => L
  | v :: vs => by
    have ih := Slr.wipe L vs
    unfold wipeD L2.wipe
    refine ⟨by simp [ih.len], fun j e h => ?_⟩
    by_cases hj : j = v
    · subst hj
      have hl : j < (wipeD ds vs).length := by have := (List.getElem?_eq_some_iff.mp h).1; simpa using this
      rw [List.getElem?_set_self hl] at h
      cases h
    · rw [List.getElem?_set_ne (Ne.symm hj)] at h
      obtain ⟨w, e1, r1⟩ := ih.at_ j e h
      exact ⟨w, by rw [List.getElem?_set_ne (Ne.symm hj)]; exact e1, r1⟩
theorem wipe_set {σ : St} {j : Nat} {x : Option V} : ∀ {vs : List Nat}, j ∈ vs → wipe (σ.set j x) vs = wipe σ vs
  | [], h => by cases h
  | v :: vs, h => by
    unfold wipe
    by_cases e : j = v
    · subst e
      apply List.ext_getElem?
      intro i
      by_cases hi : i = j
      · subst hi
        by_cases hl : i < σ.length
        · rw [List.getElem?_set_self (by rw [wipe_length, List.length_set]; exact hl), List.getElem?_set_self (by rw [wipe_length]; exact hl)]
        · rw [List.getElem?_eq_none (by rw [List.length_set, wipe_length, List.length_set]; omega), List.getElem?_eq_none (by rw [List.length_set, wipe_length]; omega)]
      · rw [List.getElem?_set_ne (Ne.symm hi), List.getElem?_set_ne (Ne.symm hi)]
        have key : ∀ ws : List Nat, (wipe (σ.set j x) ws)[i]? = (wipe σ ws)[i]? := by
          intro ws
          induction ws with
          | nil => exact List.getElem?_set_ne (Ne.symm hi)
          | cons w ws ih =>
            unfold wipe
            by_cases hw : i = w
            · subst hw
              by_cases hl : i < σ.length
              · rw [List.getElem?_set_self (by rw [wipe_length, List.length_set]; exact hl), List.getElem?_set_self (by rw [wipe_length]; exact hl)]
              · rw [List.getElem?_eq_none (by rw [List.length_set, wipe_length, List.length_set]; omega), List.getElem?_eq_none (by rw [List.length_set, wipe_length]; omega)]
            · rw [List.getElem?_set_ne (Ne.symm hw), List.getElem?_set_ne (Ne.symm hw)]
              exact ih
        exact key vs
    · rw [wipe_set (vs := vs) ((List.mem_cons.mp h).resolve_left e)]
theorem wipe_wipe {σ : St} : ∀ {vs ws : List Nat}, (∀ v ∈ vs, v ∈ ws) → wipe (wipe σ vs) ws = wipe σ ws
  | [], _, _ => rfl
  | v :: vs, ws, h => by
    show wipe ((wipe σ vs).set v none) ws = wipe σ ws
    rw [wipe_set (h v List.mem_cons_self)]
    exact wipe_wipe fun w hw => h w (List.mem_cons_of_mem _ hw)

/-- a target within a comprehension: what it does to the slots -/
structure TgLc (X : Cx) (scope : Scope) (vs : List Nat) (tg : Expr) (g : TG) (app : D → List (Option D) → Option (List (Option D))) : Prop where
  pg : ∀ (s : Shared) (H : Hp) (C : Addr) (cl : List (Str × Addr)) (fp : List Addr), PG (X.blk s H scope (compEnvC scope cl C X.env) fp) tg g
  go : ∀ σ H θ v d ds ds', app d ds = some ds' → Rep X.K θ H d v → Slr X.K θ H ds (wipe σ vs) → ∃ σ2, (∀ Q : St → Hp → Prop, Q σ2 H → g v (wipe σ vs) H Q) ∧ Slr X.K θ H ds' σ2 ∧ wipe σ2 vs = wipe σ vs
section
variable {X : Cx} {scope : Scope} {vs : List Nat}
theorem tg_name (j : Nat) {x : Str} {p : Pos} (hN : X.N.Nodup) (hj : X.N[j]? = some x) (hx : scope.names.lookup x = some .local) (hv : j ∈ vs) : TgLc X scope vs (.Name x p) (gName j) fun d ds => some (ds.set j (some d)) where
  pg := fun s H C cl fp => pg_name hN hj (.inl (lookup_relabel_local hx)) (.inr (lookup_relabel_local hx))
  go := fun σ H θ v d ds ds' e r L => by
    cases e
    exact ⟨_, fun Q q => q, L.set r j, by rw [wipe_set hv]; exact wipe_wipe fun _ h => h⟩
/-- a, b -/
def app2 (i j : Nat) : D → List (Option D) → Option (List (Option D))
  | .tup [d, e], ds => some ((ds.set i (some d)).set j (some e))
  | _, _ => none
theorem tg_pair (i j : Nat) {x y : Str} {p1 p2 p3 : Pos} {k : Nat} (hc : X.calm = true) (hN : X.N.Nodup) (hi : X.N[i]? = some x) (hj : X.N[j]? = some y) (hx : scope.names.lookup x = some .local) (hy : scope.names.lookup y = some .local) (hvi : i ∈ vs) (hvj : j ∈ vs) :
    TgLc X scope vs (.Tuple [.Name x p1, .Name y p2] k p3) (gTup X.K 2 (gCons (gName i) (gCons (gName j) gNil))) (app2 i j) where
  pg := fun s H C cl fp => pg_tup (X := X.blk s H scope (compEnvC scope cl C X.env) fp) hc (pgs_cons (pg_name hN hi (.inl (lookup_relabel_local hx)) (.inr (lookup_relabel_local hx))) (pgs_cons (pg_name hN hj (.inl (lookup_relabel_local hy)) (.inr (lookup_relabel_local hy))) pgs_nil))
  go := fun σ H θ v d ds ds' e r L => by
    have hd : ∃ a b, d = .tup [a, b] ∧ ds' = (ds.set i (some a)).set j (some b) := by
      unfold app2 at e
      split at e
      · cases e; exact ⟨_, _, rfl, rfl⟩
      · cases e
    obtain ⟨a, b, rfl, rfl⟩ := hd
    obtain ⟨ad, ws, rfl, s, rs⟩ := rep_tup r
    obtain ⟨v1, v2, rfl, r1, r2⟩ := reps2 rs
    refine ⟨_, fun Q q => ⟨ad, [v1, v2], rfl, s, rfl, v1, [v2], rfl, v2, [], rfl, rfl, q⟩, (L.set r1 i).set r2 j, ?_⟩
    rw [wipe_set hvj, wipe_set hvi]
    exact wipe_wipe fun _ h => h
end
def WTs (X : Cx) (B : Bs) (ds : List (Option D)) (ms : List Ob) (ifs : List Expr) (Q : Bool → List Ob → Prop) : Prop := match ifs with
  | [] => Q true ms
  | [c] => WT X B ds ms c Q
  | _ => False
def ttsCan (X : Cx) (ifs : List Expr) : TT := fun σ H Q => ∀ pins s, Inv X pins σ H s →
  wpAny (model X.prog X.w) X.A (forIn ifs true fun c r => if r = true then do let ok ← isTrue c X.env (eval c X.env); pure (ForInStep.yield ok) else pure (ForInStep.yield r)) (TP X pins σ Q) X.xe s
theorem WTs.bind {X : Cx} {B : Bs} {ds : List (Option D)} {ms : List Ob} {ifs : List Expr} {Q' : Bool → List Ob → Prop} (h : WTs X B ds ms ifs Q') {σ : St} {H : Hp} {θ : List Addr} (S : Sat X.K B θ ms H) (L : Slr X.K θ H ds σ) {R : Bool → Hp → Prop}
    (q : ∀ b m H1 more, Q' b m → ImmP H H1 → Sat X.K B (θ ++ more) m H1 → Slr X.K (θ ++ more) H1 ds σ → R b H1) : ttsCan X ifs σ H R := by
  match ifs, h with
  | [], h => exact fun pins s I => pts_nil.run pins s σ H R I (q true ms H [] h (ImmP.refl _) (by rw [List.append_nil]; exact S) (by rw [List.append_nil]; exact L))
  | [c], h => exact fun pins s I => (pts_one pt_can).run pins s σ H R I (WT.bind (show WT X B ds ms c Q' from h) S L q)
/-- what is made is kept, or all new objects but it are forgotten -/
def Kept (n : Nat) (d : D) (m : List Ob) (Q : D → List Ob → Prop) : Prop :=
  Q d m ∨ (n ≤ m.length ∧ (m.take n).all (Ob.cl n) = true ∧ D.cl n d = true ∧ Q d (m.take n))
def tsB (X : Cx) (scope : Scope) (ifs : List Expr) : TT := fun σ H Q => ∀ (s : Shared) (H0 : Hp) (C : Addr) (cl : List (Str × Addr)) (fp : List Addr), ttsCan (X.blk s H0 scope (compEnvC scope cl C X.env) fp) ifs σ H Q
def teB (X : Cx) (scope : Scope) (e : Expr) : TE := fun σ H Q => ∀ (s : Shared) (H0 : Hp) (C : Addr) (cl : List (Str × Addr)) (fp : List Addr), tCan (X.blk s H0 scope (compEnvC scope cl C X.env) fp) e σ H Q
section
variable {X : Cx} {B : Bs} {ds : List (Option D)} {ms : List Ob} {Q : D → List Ob → Prop} {elt kx vx tg iter : Expr} {ifs : List Expr} {scope : Scope} {own : List (Str × Nat)} {pos : Pos} {g : TG} {app : D → List (Option D) → Option (List (Option D))}
/-- the word of a list comprehension -/
def LcWord (X : Cx) (ds : List (Option D)) (scope : Scope) (vs : List Nat) (app : D → List (Option D) → Option (List (Option D))) (ifs : List Expr) (elt : Expr) (items : List D) (G : List Ob → Prop) (m : List Ob) (Q : D → List Ob → Prop) : Prop :=
  ∃ Iv : Nat → List D → List Ob → Prop, Iv 0 [] m ∧ (∀ i acc m', Iv i acc m' → G m') ∧
    (∀ i d acc m', items[i]? = some d → Iv i acc m' → acc.length < sizeLine ∧ ∃ ds', app d (wipeD ds vs) = some ds' ∧ ∀ (B : Bs) (s : Shared) (H : Hp) (C : Addr) (cl : List (Str × Addr)) (fp : List Addr),
      WTs (X.blk s H scope (compEnvC scope cl C X.env) fp) B ds' m' ifs fun b m3 => (b = true → ∀ (s : Shared) (H : Hp) (C : Addr) (cl : List (Str × Addr)) (fp : List Addr), WE (X.blk s H scope (compEnvC scope cl C X.env) fp) B ds' m3 elt fun y m4 => Kept m'.length y m4 fun y m5 => Iv (i + 1) (acc ++ [y]) m5) ∧ (b = false → Iv (i + 1) acc m3)) ∧
    (∀ acc m', Iv items.length acc m' → m'.all (Ob.cl m'.length) = true → Q (.obj m'.length) (m' ++ [.lst acc]))
theorem lc_read (T : TgLc X scope (own.map (·.2)) tg g app) (h : WI X B ds ms tg iter fun items G m => LcWord X ds scope (own.map (·.2)) app ifs elt items G m Q) {σ : St} {H : Hp} {θ : List Addr} (S : Sat X.K B θ ms H) (L : Slr X.K θ H ds σ) :
    tLc (tiCan X tg iter) g (tsB X scope ifs) (teB X scope elt) (own.map (·.2)) σ H (PV X.K B θ H Q) := by
  intro pins s I
  refine thn (h σ H θ S L pins s I) fun v s1 h1 => thn h1 fun itv s2 h2 => ?_
  obtain ⟨it, fp, tn, J, H1, e1, I1, T0, t0, hfp, items, G, m, more, im, S1, ⟨Iv, i0, iG, step, done⟩, Gh, Y, W, wg, wy⟩ := h2
  refine ⟨it, fp, tn, J, H1, e1, I1, T0, t0, hfp, fun Dl hD => ?_⟩
  have hlen : (θ ++ more).length = m.length := S1.len
  have L1 := L.mono (Le.app θ more) im
  have bD : Dl ∈ B.T0 ∨ B.H0 Dl = none := by
    by_cases hT : Dl ∈ B.T0
    · exact .inl hT
    · right
      cases q : B.H0 Dl with
      | none => rfl
      | some o => have := S1.keep Dl o q hT; rw [hD] at this; cases this
  refine lc_it W (fun i H' => ∃ acc ws ms' θ', H' Dl = some (.lst ws) ∧ Reps X.K θ' H' acc ws ∧ Dl ∉ θ' ∧ ImmP H1 H' ∧ θ'.take (θ ++ more).length = θ ++ more ∧ Sat X.K B θ' ms' H' ∧ Iv i acc ms')
    ⟨[], [], m, θ ++ more, upd_same, mk_nil, S1.notIn hD, ImmP.new hD, List.take_length, S1.fresh hD, i0⟩ (fun i H' _ ⟨acc, ws, ms', θ', hw, rw', nD, im', t', S', q⟩ => wg θ' ms' H' im' t' S' (iG i acc ms' q)) (fun i x H' H2 hi p y => ?_) (fun H' p => ?_)
  · obtain ⟨acc, ws, ms', θ', hw, rw', nD, im', t', S', q⟩ := p
    obtain ⟨d, hd, sm2, S2, r2⟩ := wy i x H' H2 θ' ms' hi im' t' S' (iG i acc ms' q) y
    have im2 : ImmP H' H2 := fun a o h _ => sm2 a o h
    obtain ⟨hz, ds', ea, body⟩ := step i d acc ms' hd q
    have L2' : Slr X.K θ' H2 ds σ := L1.mono (le_of_take t') (im'.trans im2)
    obtain ⟨σ2, hg, L3, hwp⟩ := T.go σ H2 θ' x d _ ds' ea r2 (L2'.wipe _)
    refine hg _ ⟨hwp, fun s H0 C cl fp => ?_⟩
    refine WTs.bind (body ⟨H2, θ'⟩ s H0 C cl fp) S2.here L3 fun b m3 H3 more3 q3 im3 S3 L4 => ?_
    have hw3 : H3 Dl = some (.lst ws) := S3.keep Dl _ (sm2 _ _ hw) nD
    have nD3 : Dl ∉ θ' ++ more3 := fun z => by
      rcases S3.new Dl z with q | q
      · exact nD q
      · have := sm2 _ _ hw
        rw [show H2 Dl = none from q] at this; cases this
    have tk : ∀ {θ'' : List Addr}, θ''.take θ'.length = θ' → θ''.take (θ ++ more).length = θ ++ more := fun {θ''} z => by
      have hl := le_len t'
      have : (θ''.take θ'.length).take (θ ++ more).length = θ ++ more := by rw [z]; exact t'
      rw [List.take_take] at this
      rw [show min (θ ++ more).length θ'.length = (θ ++ more).length by omega] at this
      exact this
    cases b with
    | false =>
      exact ⟨acc, ws, m3, θ' ++ more3, hw3, Reps.mono (Le.app _ _) (im2.trans im3) _ _ rw', nD3, (im'.trans im2).trans im3, tk (by simp), S2.rebase S3, q3.2 rfl⟩
    | true =>
      intro s' H0' C' cl' fp'
      refine WE.bind (q3.1 rfl s' H0' C' cl' fp') S3 L4 fun y m4 yv H4 more4 q4 r4 im4 S4 L5 => ?_
      have hw4 : H4 Dl = some (.lst ws) := S4.keep Dl _ (sm2 _ _ hw) nD
      have nD4 : Dl ∉ θ' ++ more3 ++ more4 := fun z => by
        rcases S4.new Dl z with q | q
        · exact nD q
        · have := sm2 _ _ hw
          rw [show H2 Dl = none from q] at this; cases this
      have SB : Sat X.K B (θ' ++ more3 ++ more4) m4 H4 := S2.rebase S4
      have rws : Reps X.K (θ' ++ more3 ++ more4) H4 acc ws := Reps.mono ((Le.app _ _).trans (Le.app _ _)) ((im2.trans im3).trans im4) _ _ rw'
      have imA : ImmP H1 H4 := ((im'.trans im2).trans im3).trans im4
      refine ⟨ws, hw4, by rw [rw'.length]; exact hz, ?_⟩
      -- the new item, whatever is kept
      have fin : ∀ (θ'' : List Addr) (m5 : List Ob), Dl ∉ θ'' → Sat X.K B θ'' m5 H4 → Reps X.K θ'' H4 acc ws → Rep X.K θ'' H4 y yv → θ''.take θ'.length = θ' → Iv (i + 1) (acc ++ [y]) m5 →
          ∃ acc ws ms' θ', upd H4 Dl (.lst (_ ++ [yv])) Dl = some (.lst ws) ∧ Reps X.K θ' (upd H4 Dl (.lst (_ ++ [yv]))) acc ws ∧ Dl ∉ θ' ∧ ImmP H1 (upd H4 Dl (.lst (_ ++ [yv]))) ∧ θ'.take (θ ++ more).length = θ ++ more ∧ Sat X.K B θ' ms' (upd H4 Dl (.lst (_ ++ [yv]))) ∧ Iv (i + 1) acc ms' := fun θ'' m5 n5 S5 r5 ry t5 q5 => by
        obtain ⟨S6, im6⟩ := S5.other (o := .lst (ws ++ [yv])) n5 bD hw4 rfl
        exact ⟨acc ++ [y], ws ++ [yv], m5, θ'', upd_same, Reps.mono (Le.refl _) im6 _ _ (r5.append (mk_cons ry mk_nil)), n5, imA.trans im6, tk t5, S6, q5⟩
      rcases q4 with q4 | ⟨hn, c1, c2, q4⟩
      · exact fin _ m4 nD4 SB rws r4 (by rw [List.append_assoc]; simp) q4
      · have e5 : (θ' ++ more3 ++ more4).take ms'.length = θ' := by
          rw [← S'.len, List.append_assoc]; simp
        have S5 := SB.cut hn c1
        rw [e5] at S5
        have r5 := Rep.cut (n := ms'.length) y yv c2 r4
        rw [e5] at r5
        exact fin θ' _ nD S5 (Reps.mono (Le.refl _) ((im2.trans im3).trans im4) _ _ rw') r5 (by simp) q4
  · obtain ⟨acc, ws, ms', θ', hw, rw', nD, im', t', S', q⟩ := p
    have e : θ' = θ ++ (more ++ θ'.drop (θ ++ more).length) := by
      rw [← List.append_assoc]
      conv => lhs; rw [← List.take_append_drop (θ ++ more).length θ', t']
    have S2 := S'.adopt (ob := .lst acc) nD bD ⟨ws, hw, Reps.mono (Le.app _ _) (ImmP.refl _) _ _ rw'⟩
    refine ⟨.obj ms'.length, ms' ++ [.lst acc], more ++ θ'.drop (θ ++ more).length ++ [Dl], ?_, im.trans im', ?_, done acc ms' q (sat_clos S')⟩
    · rw [← List.append_assoc, ← e]
      exact mk_obj (by rw [← S'.len]; simp)
    · rw [← List.append_assoc, ← e]
      exact S2
theorem we_lc (hc : X.calm = true) (hN : X.N.Nodup) (ok : BlkOk X.N X.env.scope scope own) (T : TgLc X scope (own.map (·.2)) tg g app) (h : WI X B ds ms tg iter fun items G m => LcWord X ds scope (own.map (·.2)) app ifs elt items G m Q)
    (hs : ∀ x, foldedSetIterable iter X.env x = pure x := by intro _; rfl) : WE X B ds ms (.ListComp elt [⟨tg, iter, ifs, 0⟩] scope pos) Q :=
  WE.pe (pe_lc hc hN pi_can ok T.pg (tt := tsB X scope ifs) (te := teB X scope elt) (fun s H C cl fp => ⟨fun pins s' σ H Q I h => h s _ C cl fp pins s' I⟩) (fun s H C cl fp => ⟨fun pins s' σ H Q I h => h s _ C cl fp pins s' I⟩) hs) fun σ H θ S L => lc_read T h S L
/-- x = [..] on one line, x a local -/
theorem ws_setLc (i : Nat) {fl : Nat} {E : En} {y : Str} {py spos : Pos} (hc : X.calm = true) (hN : X.N.Nodup) (hy : X.N[i]? = some y) (hyl : X.env.scope.names.lookup y = some .local) (ok : BlkOk X.N X.env.scope scope own)
    (T : TgLc X scope (own.map (·.2)) tg g app) (h : WI X B ds ms tg iter fun items G m => LcWord X ds scope (own.map (·.2)) app ifs elt items G m fun d m' => E.nx (ds.set i (some d)) m')
    (hsw : swapsWith (.ListComp elt [⟨tg, iter, ifs, 0⟩] scope pos) (some (.Name y py)) spos.line X.env = pure true)
    (hs : ∀ x, foldedSetIterable iter X.env x = pure x := by intro _; rfl) : WS X B fl ds ms (.Assign [.Name y py] (.ListComp elt [⟨tg, iter, ifs, 0⟩] scope pos) spos) E := .mk fun σ H θ hf S L =>
  can_ps (ps_setLc hc hN hy hyl hsw pi_can ok T.pg (tt := tsB X scope ifs) (te := teB X scope elt) (fun s H C cl fp => ⟨fun pins s' σ H Q I h => h s _ C cl fp pins s' I⟩) (fun s H C cl fp => ⟨fun pins s' σ H Q I h => h s _ C cl fp pins s' I⟩) hs)
    (by
      have hr := lc_read (Q := fun d m' => E.nx (ds.set i (some d)) m') T h S L
      have key : ∀ v H', PV X.K B θ H (fun d m' => E.nx (ds.set i (some d)) m') v H' → gName i v σ H' (enOf X.K B fl θ H E).nx := fun v H' ⟨d, m, more, r, im, S1, q⟩ => ⟨ds.set i (some d), m, θ ++ more, (L.mono (Le.app _ _) im).set r i, im, take_app hf, S1, q⟩
      show tLc (tiCan X tg iter) g (tsB X scope ifs) (teB X scope elt) (own.map (·.2)) σ H fun x H1 => gName i x σ H1 (enOf X.K B fl θ H E).nx
      intro pins s I
      refine thn (hr pins s I) fun v s1 h1 => thn h1 fun itv s2 h2 => ?_
      obtain ⟨it, fp, tn, J, H1, e1, I1, T0, t0, hfp, q⟩ := h2
      refine ⟨it, fp, tn, J, H1, e1, I1, T0, t0, hfp, fun Dl hD => ?_⟩
      obtain ⟨W, w0, tr⟩ := q Dl hD
      exact ⟨W, w0, fun i m H w => (tr i m H w).imp (fun z => ⟨z.1, key _ _ z.2⟩) id⟩)
end
end VL

namespace VL
open PySem PySem.Spec PyProof.Rows L2

/-! ## another numbering -/
mutual
def D.ren (f : Nat → Nat) : D → D
  | .tup ds => .tup (renAll f ds)
  | .rol ds => .rol (renAll f ds)
  | .rod ks ds => .rod ks (renAll f ds)
  | .obj k => .obj (f k)
  | .non => .non
  | .bl b => .bl b
  | .int i => .int i
  | .str x => .str x
  | .ref a => .ref a
  | .ty n => .ty n
def renAll (f : Nat → Nat) : List D → List D
  | [] => []
  | d :: ds => D.ren f d :: renAll f ds
end
theorem renAll_len (f : Nat → Nat) : ∀ ds : List D, (renAll f ds).length = ds.length
  | [] => by unfold renAll; rfl
  | d :: ds => by unfold renAll; rw [List.length_cons, List.length_cons, renAll_len f ds]
def renKV {κ : Type} (f : Nat → Nat) : List (κ × D) → List (κ × D)
  | [] => []
  | (k, d) :: r => (k, d.ren f) :: renKV f r
def Ob.ren (f : Nat → Nat) : Ob → Ob
  | .lst ds => .lst (renAll f ds)
  | .dK kvs => .dK (renKV f kvs)
  | .dT kvs => .dT (renKV f kvs)
  | .ins C fs => .ins C (renKV f fs)
section
variable {K : PySem.W.Frag} {θ θl : List Addr} {H : Hp} {f : Nat → Nat}
mutual
theorem Rep.ren (h : ∀ (k : Nat) (a : Addr), θl[k]? = some a → θ[f k]? = some a) : ∀ (d : D) (v : V), Rep K θl H d v → Rep K θ H (d.ren f) v
  | .non, _, r => by unfold Rep at r; unfold D.ren Rep; exact r
  | .bl _, _, r => by unfold Rep at r; unfold D.ren Rep; exact r
  | .int _, _, r => by unfold Rep at r; unfold D.ren Rep; exact r
  | .str _, _, r => by unfold Rep at r; unfold D.ren Rep; exact r
  | .ref _, _, r => by unfold Rep at r; unfold D.ren Rep; exact r
  | .ty _, _, r => by unfold Rep at r; unfold D.ren Rep; exact r
  | .obj k, _, r => by
    unfold Rep at r; unfold D.ren Rep
    obtain ⟨a, e, q⟩ := r
    exact ⟨a, h k a e, q⟩
  | .tup ds, _, r => by
    unfold Rep at r; unfold D.ren Rep
    obtain ⟨a, vs, e, s, q⟩ := r
    exact ⟨a, vs, e, s, Reps.ren h ds vs q⟩
  | .rol ds, _, r => by
    unfold Rep at r; unfold D.ren Rep
    obtain ⟨a, vs, e, s, q⟩ := r
    exact ⟨a, vs, e, s, Reps.ren h ds vs q⟩
  | .rod ks ds, _, r => by
    unfold Rep at r; unfold D.ren Rep
    obtain ⟨a, vs, e, s, l, q⟩ := r
    exact ⟨a, vs, e, s, by rw [renAll_len]; exact l, Reps.ren h ds vs q⟩
theorem Reps.ren (h : ∀ (k : Nat) (a : Addr), θl[k]? = some a → θ[f k]? = some a) : ∀ (ds : List D) (vs : List V), Reps K θl H ds vs → Reps K θ H (renAll f ds) vs
  | [], _, r => by unfold Reps at r; unfold renAll Reps; exact r
  | d :: ds, _, r => by
    unfold Reps at r; unfold renAll Reps
    obtain ⟨v, vs', e, r1, rs⟩ := r
    exact ⟨v, vs', e, Rep.ren h d v r1, Reps.ren h ds vs' rs⟩
end
mutual
theorem Rep.unren (h : ∀ (k : Nat) (a : Addr), θ[f k]? = some a → θl[k]? = some a) : ∀ (d : D) (v : V), Rep K θ H (d.ren f) v → Rep K θl H d v
  | .non, _, r => by unfold D.ren Rep at r; unfold Rep; exact r
  | .bl _, _, r => by unfold D.ren Rep at r; unfold Rep; exact r
  | .int _, _, r => by unfold D.ren Rep at r; unfold Rep; exact r
  | .str _, _, r => by unfold D.ren Rep at r; unfold Rep; exact r
  | .ref _, _, r => by unfold D.ren Rep at r; unfold Rep; exact r
  | .ty _, _, r => by unfold D.ren Rep at r; unfold Rep; exact r
  | .obj k, _, r => by
    unfold D.ren Rep at r; unfold Rep
    obtain ⟨a, e, q⟩ := r
    exact ⟨a, h k a e, q⟩
  | .tup ds, _, r => by
    unfold D.ren Rep at r; unfold Rep
    obtain ⟨a, vs, e, s, q⟩ := r
    exact ⟨a, vs, e, s, Reps.unren h ds vs q⟩
  | .rol ds, _, r => by
    unfold D.ren Rep at r; unfold Rep
    obtain ⟨a, vs, e, s, q⟩ := r
    exact ⟨a, vs, e, s, Reps.unren h ds vs q⟩
  | .rod ks ds, _, r => by
    unfold D.ren Rep at r; unfold Rep
    obtain ⟨a, vs, e, s, l, q⟩ := r
    exact ⟨a, vs, e, s, by rw [renAll_len] at l; exact l, Reps.unren h ds vs q⟩
theorem Reps.unren (h : ∀ (k : Nat) (a : Addr), θ[f k]? = some a → θl[k]? = some a) : ∀ (ds : List D) (vs : List V), Reps K θ H (renAll f ds) vs → Reps K θl H ds vs
  | [], _, r => by unfold renAll Reps at r; unfold Reps; exact r
  | d :: ds, _, r => by
    unfold renAll Reps at r; unfold Reps
    obtain ⟨v, vs', e, r1, rs⟩ := r
    exact ⟨v, vs', e, Rep.unren h d v r1, Reps.unren h ds vs' rs⟩
end
theorem RepKV.ren {κ : Type} (h : ∀ (k : Nat) (a : Addr), θl[k]? = some a → θ[f k]? = some a) : ∀ (ds : List (κ × D)) (vs : List (κ × V)), RepKV K θl H ds vs → RepKV K θ H (renKV f ds) vs
  | [], _, r => r
  | (k, d) :: ds, _, r => by
    obtain ⟨v, vs', e, r1, rs⟩ := r
    exact ⟨v, vs', e, Rep.ren h d v r1, RepKV.ren h ds vs' rs⟩
theorem RepKV.unren {κ : Type} (h : ∀ (k : Nat) (a : Addr), θ[f k]? = some a → θl[k]? = some a) : ∀ (ds : List (κ × D)) (vs : List (κ × V)), RepKV K θ H (renKV f ds) vs → RepKV K θl H ds vs
  | [], _, r => r
  | (k, d) :: ds, _, r => by
    obtain ⟨v, vs', e, r1, rs⟩ := r
    exact ⟨v, vs', e, Rep.unren h d v r1, RepKV.unren h ds vs' rs⟩
theorem obR_ren (h : ∀ (k : Nat) (b : Addr), θl[k]? = some b → θ[f k]? = some b) {a : Addr} : ∀ {ob : Ob}, ObR K θl H a ob → ObR K θ H a (ob.ren f)
  | .lst _, ⟨vs, e, r⟩ => ⟨vs, e, Reps.ren h _ _ r⟩
  | .dK _, ⟨vs, e, r⟩ => ⟨vs, e, RepKV.ren h _ _ r⟩
  | .dT _, ⟨vs, e, r⟩ => ⟨vs, e, RepKV.ren h _ _ r⟩
  | .ins _ _, ⟨C, dx, vs, n, e, r⟩ => ⟨C, dx, vs, n, e, RepKV.ren h _ _ r⟩
theorem obR_unren (h : ∀ (k : Nat) (b : Addr), θ[f k]? = some b → θl[k]? = some b) {a : Addr} : ∀ {ob : Ob}, ObR K θ H a (ob.ren f) → ObR K θl H a ob
  | .lst _, ⟨vs, e, r⟩ => ⟨vs, e, Reps.unren h _ _ r⟩
  | .dK _, ⟨vs, e, r⟩ => ⟨vs, e, RepKV.unren h _ _ r⟩
  | .dT _, ⟨vs, e, r⟩ => ⟨vs, e, RepKV.unren h _ _ r⟩
  | .ins _ _, ⟨C, dx, vs, n, e, r⟩ => ⟨C, dx, vs, n, e, RepKV.unren h _ _ r⟩
end

/-! ## the callee's part of the store -/
/-- the place of the callee's object: one of the caller's, or a new one -/
def fr (ι : List Nat) (n : Nat) (j : Nat) : Nat := if h : j < ι.length then ι[j] else n + (j - ι.length)
def over (f : Nat → Nat) : List Nat → List Ob → List Ob → List Ob
  | [], ms, ml => ms ++ ml.map (Ob.ren f)
  | _ :: _, ms, [] => ms
  | k :: ι, ms, ob :: ml => over f ι (ms.set k (ob.ren f)) ml
structure Fr (ms : List Ob) (dl : List D) (ι : List Nat) (ml : List Ob) (dll : List D) : Prop where
  nd : ι.Nodup
  len : ι.length = ml.length
  at_ : ∀ (j k : Nat), ι[j]? = some k → ∃ ob, ml[j]? = some ob ∧ ms[k]? = some (ob.ren (fr ι ms.length))
  args : dl = renAll (fr ι ms.length) dll
theorem over_length (f : Nat → Nat) : ∀ (ι : List Nat) (ms ml : List Ob), ι.length ≤ ml.length → (over f ι ms ml).length = ms.length + (ml.length - ι.length)
  | [], ms, ml, _ => by simp [over]
  | _ :: _, _, [], h => by simp at h
  | k :: ι, ms, ob :: ml, h => by
    have ih := over_length f ι (ms.set k (ob.ren f)) ml (by simpa using h)
    unfold over
    rw [ih]
    simp
theorem over_get (f : Nat → Nat) : ∀ (ι : List Nat) (ms ml : List Ob) (k : Nat) (ob : Ob), ι.Nodup → ι.length ≤ ml.length → (∀ k ∈ ι, k < ms.length) → (over f ι ms ml)[k]? = some ob →
    (∃ (j : Nat) (o : Ob), ι[j]? = some k ∧ ml[j]? = some o ∧ ob = o.ren f) ∨ (k < ms.length ∧ k ∉ ι ∧ ms[k]? = some ob) ∨ (∃ (i : Nat) (o : Ob), k = ms.length + i ∧ ml[ι.length + i]? = some o ∧ ob = o.ren f)
  | [], ms, ml, k, ob, _, _, _, h => by
    unfold over at h
    by_cases hk : k < ms.length
    · rw [List.getElem?_append_left hk] at h
      exact .inr (.inl ⟨hk, by simp, h⟩)
    · rw [List.getElem?_append_right (by omega), List.getElem?_map] at h
      obtain ⟨o, e, q⟩ := Option.map_eq_some_iff.mp h
      exact .inr (.inr ⟨k - ms.length, o, by omega, by simpa using e, q.symm⟩)
  | _ :: _, _, [], _, _, _, h, _, _ => by simp at h
  | c :: ι, ms, o0 :: ml, k, ob, nd, hl, hb, h => by
    unfold over at h
    have nd' := List.nodup_cons.mp nd
    rcases over_get f ι (ms.set c (o0.ren f)) ml k ob nd'.2 (by simpa using hl) (fun j hj => by rw [List.length_set]; exact hb j (List.mem_cons_of_mem _ hj)) h with ⟨j, o, e1, e2, e3⟩ | ⟨h1, h2, h3⟩ | ⟨i, o, e1, e2, e3⟩
    · exact .inl ⟨j + 1, o, by simpa using e1, by simpa using e2, e3⟩
    · by_cases hc : k = c
      · subst hc
        rw [List.getElem?_set_self (by simpa using h1)] at h3
        exact .inl ⟨0, o0, rfl, rfl, (Option.some.inj h3).symm⟩
      · rw [List.getElem?_set_ne (Ne.symm hc)] at h3
        exact .inr (.inl ⟨by simpa using h1, by simp [hc, h2], h3⟩)
    · exact .inr (.inr ⟨i, o, by simpa using e1, by rw [List.length_cons, show ι.length + 1 + i = ι.length + i + 1 by omega]; simpa using e2, e3⟩)

section
variable {K : PySem.W.Frag} {B : Bs} {θ : List Addr} {ms ml : List Ob} {H : Hp} {ι : List Nat} {dl dll : List D}
/-- the callee's places -/
def sub (θ : List Addr) (ι : List Nat) : List Addr := ι.map fun k => θ.getD k 0
theorem sub_get {j : Nat} {a : Addr} (hb : ∀ k ∈ ι, k < θ.length) (h : (sub θ ι)[j]? = some a) : ∃ k, ι[j]? = some k ∧ θ[k]? = some a := by
  unfold sub at h
  rw [List.getElem?_map] at h
  obtain ⟨k, e, q⟩ := Option.map_eq_some_iff.mp h
  have hk := hb k (List.mem_of_getElem? e)
  refine ⟨k, e, ?_⟩
  rw [List.getElem?_eq_getElem hk, ← q, List.getD_eq_getElem?_getD, List.getElem?_eq_getElem hk]
  rfl
theorem Fr.bound (F : Fr ms dl ι ml dll) (S : Sat K B θ ms H) : ∀ k ∈ ι, k < θ.length := fun k hk => by
  obtain ⟨j, hj, e⟩ := List.getElem_of_mem hk
  obtain ⟨ob, _, h2⟩ := F.at_ j k (by rw [List.getElem?_eq_getElem hj, e])
  rw [S.len]
  exact (List.getElem?_eq_some_iff.mp h2).1
theorem Fr.go (F : Fr ms dl ι ml dll) (S : Sat K B θ ms H) : ∀ (k : Nat) (a : Addr), θ[fr ι ms.length k]? = some a → (sub θ ι)[k]? = some a := fun k a h => by
  unfold fr at h
  by_cases hk : k < ι.length
  · rw [dif_pos hk] at h
    unfold sub
    rw [List.getElem?_map, List.getElem?_eq_getElem hk]
    show some (θ.getD ι[k] 0) = some a
    rw [List.getD_eq_getElem?_getD, h]
    rfl
  · rw [dif_neg hk] at h
    have := (List.getElem?_eq_some_iff.mp h).1
    rw [S.len] at this
    omega
theorem Fr.sat (F : Fr ms dl ι ml dll) (S : Sat K B θ ms H) : Sat K ⟨H, sub θ ι⟩ (sub θ ι) ml H where
  len := by unfold sub; rw [List.length_map]; exact F.len
  nd := by
    have hb := F.bound S
    unfold List.Nodup sub
    rw [List.pairwise_map]
    refine List.Pairwise.imp_of_mem (fun {x y} hx hy hne => ?_) F.nd
    have h1 := hb x hx
    have h2 := hb y hy
    rw [List.getD_eq_getElem?_getD, List.getD_eq_getElem?_getD, List.getElem?_eq_getElem h1, List.getElem?_eq_getElem h2]
    exact fun e => hne ((List.getElem_inj S.nd).mp e)
  obs := fun j ob a h1 h2 => by
    obtain ⟨k, e1, e2⟩ := sub_get (F.bound S) h2
    obtain ⟨o, q1, q2⟩ := F.at_ j k e1
    rw [h1] at q1; cases q1
    exact obR_unren (F.go S) (S.obs k _ a q2 e2)
  keep := fun _ _ h _ => h
  new := fun a h => .inl h
theorem Fr.reps (F : Fr ms dl ι ml dll) (S : Sat K B θ ms H) {vs : List V} (r : Reps K θ H dl vs) : Reps K (sub θ ι) H dll vs := by
  rw [F.args] at r
  exact Reps.unren (F.go S) _ _ r
theorem Fr.back (F : Fr ms dl ι ml dll) (S : Sat K B θ ms H) {ml' : List Ob} {H' : Hp} {more : List Addr} (im : ImmP H H') (S' : Sat K ⟨H, sub θ ι⟩ (sub θ ι ++ more) ml' H') :
    Sat K B (θ ++ more) (over (fr ι ms.length) ι ms ml') H' ∧ ι.length ≤ ml'.length ∧ ∀ (k : Nat) (a : Addr), (sub θ ι ++ more)[k]? = some a → (θ ++ more)[fr ι ms.length k]? = some a := by
  have hb := F.bound S
  have hsl : (sub θ ι).length = ι.length := by unfold sub; rw [List.length_map]
  have hlen : ι.length ≤ ml'.length := by have := S'.len; rw [List.length_append, hsl] at this; omega
  have hml : ml'.length = ι.length + more.length := by have := S'.len; rw [List.length_append, hsl] at this; omega
  have go : ∀ (k : Nat) (a : Addr), (sub θ ι ++ more)[k]? = some a → (θ ++ more)[fr ι ms.length k]? = some a := fun k a h => by
    unfold fr
    by_cases hk : k < ι.length
    · rw [dif_pos hk]
      rw [List.getElem?_append_left (by rw [hsl]; exact hk)] at h
      obtain ⟨c, e1, e2⟩ := sub_get hb h
      rw [List.getElem?_eq_getElem hk] at e1
      cases e1
      rw [List.getElem?_append_left (hb _ (List.getElem_mem hk))]
      exact e2
    · rw [dif_neg hk]
      rw [List.getElem?_append_right (by rw [hsl]; omega), hsl] at h
      rw [← S.len, List.getElem?_append_right (by omega), show θ.length + (k - ι.length) - θ.length = k - ι.length by omega]
      exact h
  have fresh : ∀ a ∈ more, H a = none := fun a ha => by
    rcases S'.new a (List.mem_append_right _ ha) with z | z
    · exact absurd rfl ((List.nodup_append.mp S'.nd).2.2 a z a ha)
    · exact z
  have subT : ∀ a ∈ sub θ ι, a ∈ θ := fun a ha => by
    obtain ⟨j, hj, e⟩ := List.getElem_of_mem ha
    obtain ⟨k, _, e2⟩ := sub_get (θ := θ) (ι := ι) (j := j) (a := a) hb (by rw [List.getElem?_eq_getElem hj, e])
    exact List.mem_of_getElem? e2
  refine ⟨⟨?_, ?_, ?_, ?_, ?_⟩, hlen, go⟩
  · rw [over_length _ _ _ _ hlen, List.length_append, S.len, hml]; omega
  · refine List.nodup_append.mpr ⟨S.nd, (List.nodup_append.mp S'.nd).2.1, fun a ha b hb' e => ?_⟩
    subst e
    exact S.notIn (fresh a hb') ha
  · intro k ob a h1 h2
    rcases over_get _ ι ms ml' k ob F.nd hlen (fun j hj => by rw [← S.len]; exact hb j hj) h1 with ⟨j, o, e1, e2, e3⟩ | ⟨c1, c2, c3⟩ | ⟨i, o, e1, e2, e3⟩
    · subst e3
      have hk : k < θ.length := hb k (List.mem_of_getElem? e1)
      rw [List.getElem?_append_left hk] at h2
      have hj : (sub θ ι)[j]? = some a := by
        unfold sub
        rw [List.getElem?_map, e1]
        show some (θ.getD k 0) = some a
        rw [List.getD_eq_getElem?_getD, h2]; rfl
      have hj' : (sub θ ι ++ more)[j]? = some a := by
        rw [List.getElem?_append_left (List.getElem?_eq_some_iff.mp hj).1]; exact hj
      exact obR_ren go (S'.obs j o a e2 hj')
    · rw [List.getElem?_append_left (by rw [S.len]; exact c1)] at h2
      have hna : a ∉ sub θ ι := fun z => by
        obtain ⟨j, hj, e⟩ := List.getElem_of_mem z
        obtain ⟨k2, q1, q2⟩ := sub_get (θ := θ) (ι := ι) (j := j) (a := a) hb (by rw [List.getElem?_eq_getElem hj, e])
        obtain ⟨l1, e1⟩ := List.getElem?_eq_some_iff.mp h2
        obtain ⟨l2, e2⟩ := List.getElem?_eq_some_iff.mp q2
        have : k = k2 := (List.getElem_inj S.nd).mp (e1.trans e2.symm)
        subst this
        exact c2 (List.mem_of_getElem? q1)
      have hob := S.obs k ob a c3 h2
      obtain ⟨u, hu, _⟩ := hob.some
      exact hob.keep (Le.app _ _) im ((S'.keep a u hu hna).trans hu.symm)
    · subst e3
      have ht : (θ ++ more)[k]? = more[i]? := by
        rw [e1, ← S.len, List.getElem?_append_right (by omega)]
        congr 1; omega
      rw [ht] at h2
      have hj' : (sub θ ι ++ more)[ι.length + i]? = some a := by
        rw [List.getElem?_append_right (by rw [hsl]; omega), hsl]
        rw [show ι.length + i - ι.length = i by omega]; exact h2
      exact obR_ren go (S'.obs _ o a e2 hj')
  · intro b o e n
    refine S'.keep b o (S.keep b o e n) fun z => ?_
    rcases S.new b (subT b z) with q | q
    · exact n q
    · rw [e] at q; cases q
  · intro a ha
    rcases List.mem_append.mp ha with z | z
    · exact S.new a z
    · by_cases hT : a ∈ B.T0
      · exact .inl hT
      · right
        cases q : B.H0 a with
        | none => rfl
        | some o => have := S.keep a o q hT; rw [fresh a z] at this; cases this
end

/-! ## defs -/
abbrev VSp := List D → List Ob → (D → List Ob → Prop) → Prop
def spOf (K : PySem.W.Frag) (φ : VSp) : Sp := fun vs H Q _ => ∃ dl ms θ R, Reps K θ H dl vs ∧ Sat K ⟨H, θ⟩ θ ms H ∧ φ dl ms R ∧ ∀ d ms', R d ms' → ∀ v H' more, Rep K (θ ++ more) H' d v → ImmP H H' → Sat K ⟨H, θ⟩ (θ ++ more) ms' H' → Q v H'
def startD (n : Nat) (dl : List D) : List (Option D) := dl.map some ++ List.replicate (n - dl.length) none
theorem Slr.start {K : PySem.W.Frag} {θ : List Addr} {H : Hp} {dl : List D} {vs : List V} (r : Reps K θ H dl vs) (N : List Str) : Slr K θ H (startD N.length dl) (L2.start N vs) := by
  have hl := r.length
  refine ⟨by unfold startD L2.start; simp [hl], fun i d h => ?_⟩
  unfold startD at h
  unfold L2.start
  by_cases hi : i < dl.length
  · rw [List.getElem?_append_left (by simpa using hi), List.getElem?_map] at h
    obtain ⟨e, h1, h2⟩ := Option.map_eq_some_iff.mp h
    cases h2
    obtain ⟨v, e2, rv⟩ := r.get h1
    exact ⟨v, by rw [List.getElem?_append_left (by rw [List.length_map, hl]; exact hi), List.getElem?_map, e2]; rfl, rv⟩
  · rw [List.getElem?_append_right (by simpa using hi), List.getElem?_replicate] at h
    split at h <;> cases h
/-! ## a def's promise where no repr runs around -/
structure FnG (P : Program) (w : World) (K : PySem.W.Frag) (mg : Str → Option Value) (base : Heap) (k : Nat)
    (f : Addr) (fd : FuncData) (ps : List Str) (sp : Sp) : Prop where
  len : ∀ vs H Q, sp vs H Q E0 → vs.length = ps.length
  run : ∀ (A : Around) (outer : List Env) (s : Shared) (H : Hp) (args : Args) (us : List Value)
    (vs : List V) (Q : VK), Room k A → A.guards = some [] → Env0 P w K mg base A outer s H →
    BindsTo s fd args (ps.zip us) → Vals vs us → sp vs H Q E0 →
    codeAny (model P w) A (.call (.ref f) args) (CR CX0 outer P w H s Q E0) s
theorem FnG.up {P : Program} {w : World} {K : PySem.W.Frag} {mg : Str → Option Value} {base : Heap} {j k : Nat}
    {f : Addr} {fd : FuncData} {ps : List Str} {sp : Sp} (F : FnG P w K mg base j f fd ps sp) (h : j ≤ k) : FnG P w K mg base k f fd ps sp :=
  ⟨F.len, fun A outer s H args us vs Q hr => F.run A outer s H args us vs Q (hr.mono h)⟩
section
variable {P : Program} {w : World} {K : PySem.W.Frag} {mg : Str → Option Value} {base : Heap}
/-- the rule for a def, no exception leaves it -/
theorem fnG_of {k : Nat} {f : Addr} {x qual : Str} {st : Stmt} {fd : FuncData} {N ps : List Str} {sp : Sp}
    (F : Fun K x qual st f fd) (S : FnScope N ps (defScope st)) (len : ∀ vs H Q, sp vs H Q E0 → vs.length = ps.length)
    (hbody : ∀ (cdv : Value) (A : Around) (outer : List Env) (s : Shared) (H : Hp) (vs : List V) (Q : VK),
      Room k (A.deeper (envOfC qual (defScope st) s.heap.objs.size f cdv)) → A.guards = some [] → sp vs H Q E0 →
      tssCan (cxOf CX0 P w K mg base N qual (defScope st) f cdv A outer s H E0).nox (defBody st)
        ⟨fun _ H' => Q .non H', Q, fun _ _ => False, fun _ _ => False⟩ (L2.start N vs) H) : FnG P w K mg base (k + 1) f fd ps sp := by
  obtain ⟨oc, od, kV, doc, pm, an, cdv, ct, osl, rfl, lk, hcd⟩ := F.ex
  refine ⟨len, fun A outer s H args us vs Q hr hgd e0 hb r hsp => ?_⟩
  have hl : vs.length = ps.length := len _ _ _ hsp
  have kx : K.In s.heap :=
    e0.mod.kin.keeps fun b o e => (e0.bs b o e).1
  have lm : s.heap.NoLimit :=
    e0.mod.nolimit.keeps fun b o e => (e0.bs b o e).1
  have kinds : ∀ y ∈ ps.zip us, (defScope st).names.lookup y.1 = some .local ∨
      ((defScope st).names.lookup y.1 = some .cell ∧ ((cellsFrom (s.heap.objs.size + 1) (defScope st).names []).lookup y.1).isSome = true) := by
    rintro ⟨n, v⟩ hy
    rcases S.par n (List.of_mem_zip hy).1 with q | q
    · exact Or.inl q
    · exact Or.inr ⟨q, PySem.W.cellsFrom_some _ _ _ (.inl q)⟩
  refine codeAny_call_function hr.depth (kx _ _ lk) rfl S.co S.gen rfl (PySem.W.codeRec_of kx hcd)
    (hb _ _ _ _ ?_)
  refine wpAny_newFunctionEnv_cells S.kind kinds fun env he s1 hx => ?_
  cases he
  refine ⟨lm.keeps hx.toInCall.keep, codeAny_func ?_⟩
  have J := inv_start (CX := CX0) (E := E0) S hr.hd e0 hl r hx
  have J' := J.wish fun _ _ => False
  refine wpAny_mono (hbody cdv A outer s H vs Q (hr.deeper _) hgd hsp [] s1 J')
    (fun fl s' hs => ?_) fun e s' hs => hs.elim
  have fin : ∀ {σ' : St} {H' : Hp} {v : V} {u : Value},
      Inv ((cxOf CX0 P w K mg base N qual (defScope st) f cdv A outer s H E0).nox) [] σ' H' s' → RelV v u → Q v H' → CE outer P w H s Q u s' := by
    intro σ' H' v u I rv q
    exact ⟨v, H', I.os, I.bare, I.base, I.hok, rv, q⟩
  cases fl with
  | next =>
    obtain ⟨σ', H', I, q⟩ := hs
    exact fin (v := V.non) (u := Value.none) I rfl q
  | ret u =>
    obtain ⟨v, σ', H', I, rv, q⟩ := hs
    exact fin I rv q
  | brk => obtain ⟨_, _, _, q⟩ := hs; exact q.elim
  | cont => obtain ⟨_, _, _, q⟩ := hs; exact q.elim
/-- a def by its body -/
theorem vfn {x qual : Str} {st : Stmt} {f : Addr} {fd : FuncData} {N ps : List Str} {k : Nat} {φ : VSp} (F : Fun K x qual st f fd) (S : FnScope N ps (defScope st)) (len : ∀ dl ms R, φ dl ms R → dl.length = ps.length)
    (body : ∀ (cdv : Value) (A : Around) (outer : List Env) (s : Shared) (H : Hp), Room k (A.deeper (envOfC qual (defScope st) s.heap.objs.size f cdv)) → (A.deeper (envOfC qual (defScope st) s.heap.objs.size f cdv)).guards = some [] → ∀ (B : Bs) (dl : List D) (ms : List Ob) (R : D → List Ob → Prop), φ dl ms R →
      WSs (cxOf CX0 P w K mg base N qual (defScope st) f cdv A outer s H E0).nox B ms.length (startD N.length dl) ms (defBody st) ⟨fun _ m => R .non m, R, fun _ _ => False, fun _ _ => False⟩) : FnG P w K mg base (k + 1) f fd ps (spOf K φ) := by
  refine fnG_of F S (fun vs H Q h => ?_) (fun cdv A outer s H vs Q hr hgd h => ?_)
  · obtain ⟨dl, ms, θ, R, r, _, h, _⟩ := h
    rw [r.length]; exact len _ _ _ h
  · obtain ⟨dl, ms, θ, R, r, S0, h, hR⟩ := h
    have hb := body cdv A outer s H hr hgd ⟨H, θ⟩ dl ms _ h (L2.start N vs) H θ (Nat.le_of_eq S0.len.symm) S0 (Slr.start r N)
    have pre : ∀ {θ' : List Addr}, θ'.take ms.length = θ.take ms.length → ∃ more, θ' = θ ++ more := fun {θ'} t => by
      rw [List.take_of_length_le (Nat.le_of_eq S0.len)] at t
      exact ⟨θ'.drop ms.length, by rw [← t, List.take_append_drop]⟩
    refine hb.imp (fun σ' H' z => ?_) (fun v H' z => ?_) (fun σ' H' z => ?_) (fun σ' H' z => ?_)
    · obtain ⟨ds', ms', θ', L', im, t, S', q⟩ := z
      obtain ⟨more, rfl⟩ := pre t
      exact hR _ _ q _ _ more mk_non im S'
    · obtain ⟨d', ms', θ', r', im, t, S', q⟩ := z
      obtain ⟨more, rfl⟩ := pre t
      exact hR _ _ q _ _ more r' im S'
    · obtain ⟨_, _, _, _, _, _, _, q⟩ := z; exact q
    · obtain ⟨_, _, _, _, _, _, _, q⟩ := z; exact q
end
/-- a call by its promise -/
def CallF (φ : VSp) (dl : List D) (ms : List Ob) (Q : D → List Ob → Prop) : Prop :=
  ∃ ι ml dll, Fr ms dl ι ml dll ∧ φ dll ml fun d ml' => ι.length ≤ ml'.length → Q (d.ren (fr ι ms.length)) (over (fr ι ms.length) ι ms ml')
section
variable {X : Cx} {B : Bs} {ds : List (Option D)} {ms : List Ob} {Q : D → List Ob → Prop} {a : Expr} {pos : Pos} {φ : VSp}
theorem CallF.sp {dl : List D} {θ : List Addr} {H : Hp} {vs : List V} {K : PySem.W.Frag} (h : CallF φ dl ms Q) (S : Sat K B θ ms H) (r : Reps K θ H dl vs) {E : XK} : spOf K φ vs H (PV K B θ H Q) E := by
  obtain ⟨ι, ml, dll, F, q⟩ := h
  refine ⟨dll, ml, sub θ ι, _, F.reps S r, F.sat S, q, fun d ml' q v H' more rd im S' => ?_⟩
  obtain ⟨S2, hl, go⟩ := F.back S im S'
  exact ⟨_, _, more, Rep.ren go _ _ rd, im, S2, q hl⟩
theorem spOf.mono {K : PySem.W.Frag} {vs : List V} {H : Hp} {Q Q' : VK} {E E' : XK} (h : spOf K φ vs H Q E) (q : ∀ v H', Q v H' → Q' v H') : spOf K φ vs H Q' E' := by
  obtain ⟨dl, ms, θ, R, r, S, p, f⟩ := h
  exact ⟨dl, ms, θ, R, r, S, p, fun d ms' hr v H' more a b c => q _ _ (f d ms' hr v H' more a b c)⟩
variable {k : Nat} {f C : Addr} {fd : FuncData} {ps : List Str}
/-- the callee runs, called with values -/
theorem runG {pins : List (Addr × Obj)} {σ : St} {H : Hp} {s : Shared} {Qv : VK} {us : List Value} {vs : List V} {sp : Sp}
    (F : FnG X.prog X.w X.K X.mg X.base k f fd ps sp) (hr : Room k X.A) (hgd : X.A.guards = some []) (hb : Binds X.K fd ps [])
    (I : Inv X pins σ H s) (r : Vals vs us) (h : sp vs H Qv E0) : wpAny (model X.prog X.w) X.A (call (.ref f) us) (EP X pins σ Qv) X.xe s := by
  have hl : us.length = ps.length := r.length.symm.trans (F.len _ _ _ h)
  have hbd := hb s us I.kIn (by rw [List.append_nil]; exact hl)
  rw [List.append_nil] at hbd
  refine wpAny_call (codeAny_mono (F.run X.A X.stack s H ⟨us, []⟩ us vs Qv hr hgd I.env0 hbd r h) fun res s' hq => ?_)
  match res, hq with
  | .ok (.ret u), hq => exact I.after hq
theorem we_call {x : Str} {p : Pos} {e : Expr} {es : List Expr} (G : FnG X.prog X.w X.K X.mg X.base k f fd ps (spOf X.K φ)) (hr : Room k X.A) (hgd : X.A.guards = some []) (hm : X.mg x = some (.ref f)) (hk : PySem.W.keepIn X.K (.ref f) = true) (hb : Binds X.K fd ps []) (hg : Gl X x)
    (h : WA X B ds ms (e :: es) fun dl m => CallF φ dl m Q) (hdb : (x == ("__debug__" : Str)) = false := by decide) (he : starEach (e :: es) X.env = (false, eval e X.env) :: starEach es X.env := by rfl) (hpl : (backTo pos (starEach es X.env)).any (·.1) = false := by rfl) :
    WE X B ds ms (.Call (.Name x p) (e :: es) [] pos) Q := .mk fun σ H θ S L pins s I =>
  wpAny_Call_Name_kw (ld_glob I hg hm (PySem.W.callWith_K (h₀ := X.base) I.ok.mod.kin hk (thn (h σ H θ S L pos pins s I) fun us s1 ⟨vs, H1, I1, r, dl, m, more, r1, im1, S1, q⟩ =>
    ⟨I1.kIn, runG G hr hgd hb I1 r ((q.sp (E := E0) S1 r1).mono fun v H2 z => z.trans im1)⟩) he hpl) hdb)
theorem we_call0 {x : Str} {p : Pos} (G : FnG X.prog X.w X.K X.mg X.base k f fd ps (spOf X.K φ)) (hr : Room k X.A) (hgd : X.A.guards = some []) (hm : X.mg x = some (.ref f)) (hk : PySem.W.keepIn X.K (.ref f) = true) (hb : Binds X.K fd ps []) (hg : Gl X x)
    (h : CallF φ [] ms Q) (hdb : (x == ("__debug__" : Str)) = false := by decide) : WE X B ds ms (.Call (.Name x p) [] [] pos) Q := .mk fun σ H θ S L pins s I =>
  wpAny_Call_Name_kw (ld_glob I hg hm (PySem.W.callWith_K0 I.kIn hk (runG (us := []) G hr hgd hb I .nil (h.sp (E := E0) S mk_nil))) hdb)
/-- o.m(e, ..) -/
theorem we_meth {o : Expr} {m : Str} {apos : Pos} {e : Expr} {es : List Expr} {pl : Sem Bool} {cn : Str} (hcn : ClsN X.K cn C) (c : Cls X.K C) (hm : Meth X.K C m f) (G : FnG X.prog X.w X.K X.mg X.base k f fd ps (spOf X.K φ)) (hr : Room k X.A) (hgd : X.A.guards = some []) (hb : Binds X.K fd ps [])
    (h : WE X B ds ms o fun d m1 => ∃ j fs, d = .obj j ∧ m1[j]? = some (.ins cn fs) ∧ fs.lookup m = none ∧ WA X B ds m1 (e :: es) fun dl m2 => CallF φ (d :: dl) m2 Q)
    (hst : starEach (e :: es) X.env = (false, eval e X.env) :: starEach es X.env := by rfl) (hpl : (backTo pos (starEach es X.env)).any (·.1) = false := by rfl)
    (ht : eval (.Call (.Attribute o m apos) (e :: es) [] pos) X.env = (do
      let ov ← eval o X.env
      standAt apos.atName
      let (f, first) ← holding [ov] (getMethod ov m pl)
      callWith pos f first (backTo pos (starEach (e :: es) X.env)) (backToKw pos (keywordEach [] X.env))) := by rfl) :
    WE X B ds ms (.Call (.Attribute o m apos) (e :: es) [] pos) Q := .mk fun σ H θ S L pins s I => by
  refine PySem.W.methodCall_KW (pl := pl) (thn (h σ H θ S L pins s I) fun u s1 ⟨v, H1, I1, rv, d, m1, more, r1, im1, S1, j, fs, hd, hj, hl, q⟩ => ?_) ht
  subst hd
  obtain ⟨a, e1, rfl⟩ := rep_obj r1
  obtain ⟨C2, dx, vs, hcn2, s0, rs⟩ := S1.obs j _ a hj e1
  cases hcn.inj hcn2
  cases rv
  refine getmeth_ok I1 s0 c hm ((rs.fld (f := m)).2 hl) (PySem.W.callWith_K (first := [.ref a]) (h₀ := X.base) I1.ok.mod.kin hm.kp (thn (q σ H1 _ S1 (L.mono (Le.app _ _) im1) pos pins s1 I1) fun us s2 ⟨ws, H2, I2, r, dl, m2, more2, r2, im2, S2, q2⟩ => ⟨I2.kIn, ?_⟩) hst hpl)
  exact runG (us := .ref a :: us) (vs := .ref a :: ws) G hr hgd hb I2 (.cons rfl r) ((q2.sp (E := E0) S2 (mk_cons (mk_obj (Le.app _ _ _ _ e1)) r2)).mono fun v H3 z => (z.trans im2).trans im1)
theorem we_meth0 {o : Expr} {m : Str} {apos : Pos} {pl : Sem Bool} {cn : Str} (hcn : ClsN X.K cn C) (c : Cls X.K C) (hm : Meth X.K C m f) (G : FnG X.prog X.w X.K X.mg X.base k f fd ps (spOf X.K φ)) (hr : Room k X.A) (hgd : X.A.guards = some []) (hb : Binds X.K fd ps [])
    (h : WE X B ds ms o fun d m1 => ∃ j fs, d = .obj j ∧ m1[j]? = some (.ins cn fs) ∧ fs.lookup m = none ∧ CallF φ [d] m1 Q)
    (ht : eval (.Call (.Attribute o m apos) [] [] pos) X.env = (do
      let ov ← eval o X.env
      standAt apos.atName
      let (f, first) ← holding [ov] (getMethod ov m pl)
      callWith pos f first (backTo pos (starEach [] X.env)) (backToKw pos (keywordEach [] X.env))) := by rfl) :
    WE X B ds ms (.Call (.Attribute o m apos) [] [] pos) Q := .mk fun σ H θ S L pins s I => by
  refine PySem.W.methodCall_KW (pl := pl) (thn (h σ H θ S L pins s I) fun u s1 ⟨v, H1, I1, rv, d, m1, more, r1, im1, S1, j, fs, hd, hj, hl, q⟩ => ?_) ht
  subst hd
  obtain ⟨a, e1, rfl⟩ := rep_obj r1
  obtain ⟨C2, dx, vs, hcn2, s0, rs⟩ := S1.obs j _ a hj e1
  cases hcn.inj hcn2
  cases rv
  exact getmeth_ok I1 s0 c hm ((rs.fld (f := m)).2 hl) (PySem.W.callWith_K0 (first := [.ref a]) I1.kIn hm.kp (runG (us := [.ref a]) (vs := [.ref a]) G hr hgd hb I1 (.cons rfl .nil) ((q.sp (E := E0) S1 (mk_cons (mk_obj e1) mk_nil)).mono fun v H3 z => z.trans im1)))
theorem guards_make {A : Around} {us : List Value} (h : A.guards = some []) : (A.under (.builtin "type.__call__" ⟨.ref C :: us, []⟩)).guards = some [] := by
  simp [Around.under, pushGuards, h, Code.guards, Code.isGuard, guardIds]
/-- C(e, ..) -/
theorem we_make {x : Str} {p : Pos} {e : Expr} {es : List Expr} {cn : Str} (hcn : ClsN X.K cn C) (M : Mk X.K C f) (G : FnG X.prog X.w X.K X.mg X.base k f fd ps (spOf X.K φ)) (hr : Room (k + 1) X.A) (hgd : X.A.guards = some []) (hm : X.mg x = some (.ref C)) (hb : Binds X.K fd ps []) (hg : Gl X x)
    (h : WA X B ds ms (e :: es) fun dl m => CallF φ (.obj m.length :: dl) (m ++ [.ins cn []]) fun d m' => d = .non ∧ Q (.obj m.length) m')
    (hdb : (x == ("__debug__" : Str)) = false := by decide) (he : starEach (e :: es) X.env = (false, eval e X.env) :: starEach es X.env := by rfl) (hpl : (backTo pos (starEach es X.env)).any (·.1) = false := by rfl) :
    WE X B ds ms (.Call (.Name x p) (e :: es) [] pos) Q := .mk fun σ H0 θ S L pins s0 I0 => by
  refine wpAny_Call_Name_kw (ld_glob I0 hg hm (PySem.W.callWith_K (h₀ := X.base) I0.ok.mod.kin M.kp (thn (h σ H0 θ S L pos pins s0 I0) fun us s ⟨vs, H, I, r, dl, m, more, r1, im1, S1, q⟩ => ⟨I.kIn, ?_⟩) he hpl) hdb)
  -- the new instance
  have hd0 : H s.heap.objs.size = none := I.hok.fresh (Nat.le_refl _)
  have hy0 : H (s.heap.objs.size + 1) = none := I.hok.fresh (Nat.le_succ _)
  have S2 : Sat X.K B (θ ++ more) m (upd H s.heap.objs.size (.own (s.heap.objs.size + 1))) := S1.fresh hd0
  have hy2 : upd H s.heap.objs.size (.own (s.heap.objs.size + 1)) (s.heap.objs.size + 1) = none := by rw [upd_ne (Nat.succ_ne_self _)]; exact hy0
  have S3 := S2.alloc (o := .ins C s.heap.objs.size []) (ob := .ins cn []) hy2 ⟨C, s.heap.objs.size, [], hcn, upd_same, rfl⟩
  have im3 : ImmP H (upd (upd H s.heap.objs.size (.own (s.heap.objs.size + 1))) (s.heap.objs.size + 1) (.ins C s.heap.objs.size [])) := (ImmP.new hd0).trans (ImmP.new hy2)
  have I2 := Inv.made (C := C) I
  have hsp := q.sp (E := E0) S3 (mk_cons (mk_obj (a := s.heap.objs.size + 1) (by rw [← S1.len]; simp)) (Reps.mono (Le.app _ _) im3 _ _ r1))
  have r2 : Vals (V.ref (s.heap.objs.size + 1) :: vs) (Value.ref (s.heap.objs.size + 1) :: us) := .cons rfl r
  have hl : (Value.ref (s.heap.objs.size + 1) :: us).length = ps.length := r2.length.symm.trans (G.len _ _ _ hsp)
  have hbd := hb _ (Value.ref (s.heap.objs.size + 1) :: us) I2.kIn (by rw [List.append_nil]; exact hl)
  rw [List.append_nil] at hbd
  refine wpAny_call (make_map (f := f) I.kIn M.makes M.init (beq_iff_eq.mp M.fn) (codeAny_mono (G.run _ X.stack _ _ ⟨Value.ref (s.heap.objs.size + 1) :: us, []⟩ _ _ _ (hr.make C us []) (guards_make hgd) (I2.env0.make C us []) hbd r2 hsp) fun res s' hq => ?_))
  match res, hq with
  | .ok (.ret u), hq =>
    obtain ⟨v, H', I3, rv, d, m', more2, r, im4, S4, rfl, q4⟩ := I2.after hq
    cases rep_non r
    refine ⟨rv, V.ref (s.heap.objs.size + 1), H', I3, rfl, .obj m.length, m', more ++ [s.heap.objs.size + 1] ++ more2, ?_, (im1.trans im3).trans im4, ?_, q4⟩
    · rw [← List.append_assoc, ← List.append_assoc]
      exact mk_obj (by rw [← S1.len]; simp)
    · rw [← List.append_assoc, ← List.append_assoc]; exact S4
end

/-! ## calls with nothing of the store -/
mutual
def D.im : D → Bool
  | .tup ds => imAll ds
  | .rol ds => imAll ds
  | .rod _ ds => imAll ds
  | .obj _ => false
  | _ => true
def imAll : List D → Bool
  | [] => true
  | d :: ds => D.im d && imAll ds
end
mutual
theorem ren_im (f : Nat → Nat) : ∀ (d : D), d.im = true → d.ren f = d
  | .non, _ => by unfold D.ren; rfl
  | .bl _, _ => by unfold D.ren; rfl
  | .int _, _ => by unfold D.ren; rfl
  | .str _, _ => by unfold D.ren; rfl
  | .ref _, _ => by unfold D.ren; rfl
  | .ty _, _ => by unfold D.ren; rfl
  | .obj k, h => by simp [D.im] at h
  | .tup ds, h => by unfold D.ren; rw [renAll_im f ds (by simpa [D.im] using h)]
  | .rol ds, h => by unfold D.ren; rw [renAll_im f ds (by simpa [D.im] using h)]
  | .rod ks ds, h => by unfold D.ren; rw [renAll_im f ds (by simpa [D.im] using h)]
theorem renAll_im (f : Nat → Nat) : ∀ (ds : List D), imAll ds = true → renAll f ds = ds
  | [], _ => by unfold renAll; rfl
  | d :: ds, h => by
    have h' : d.im = true ∧ imAll ds = true := by simpa [imAll] using h
    unfold renAll; rw [ren_im f d h'.1, renAll_im f ds h'.2]
end
theorem Fr.none {ms : List Ob} {dl : List D} (h : imAll dl = true) : Fr ms dl [] [] dl := ⟨List.nodup_nil, rfl, fun j k e => by simp at e, (renAll_im _ _ h).symm⟩
/-- values in, a value out -/
theorem callF_pure {φ : VSp} {dl : List D} {ms : List Ob} {Q : D → List Ob → Prop} (h : imAll dl = true) (q : φ dl [] fun d ml => ml = [] ∧ d.im = true ∧ Q d ms) (mono : ∀ R R' : D → List Ob → Prop, (∀ d m, R d m → R' d m) → φ dl [] R → φ dl [] R') : CallF φ dl ms Q :=
  ⟨[], [], dl, Fr.none h, mono _ _ (fun d m z _ => by
    obtain ⟨rfl, i, q⟩ := z
    rw [ren_im _ _ i]
    show Q d (ms ++ [])
    rw [List.append_nil]; exact q) q⟩
end VL

namespace VL
open PySem PySem.Spec PyProof.Rows L2

/-! ## iterators that give new tuples -/
def ItW (n : Nat) (G : Hp → Prop) (Ys : Nat → Hp → List V → Prop) : It :=
  ⟨fun i H => i < n ∧ G H, fun i H v H' => ∃ T vs, v = .ref T ∧ H T = none ∧ H' = upd H T (.tup vs) ∧ Ys i H vs, fun i H => i = n ∧ G H⟩
theorem walk_W {n : Nat} {G : Hp → Prop} {Ys : Nat → Hp → List V → Prop} : Walk (ItW n G Ys) n G fun i H v H' => ∃ T vs, v = .ref T ∧ H T = none ∧ H' = upd H T (.tup vs) ∧ Ys i H vs :=
  ⟨fun i H hi g => ⟨hi, g⟩, fun H g => ⟨rfl, g⟩, fun i H x H' _ _ y => y⟩
theorem turn_W {P : Program} {w : World} {K : PySem.W.Frag} {elts : List Expr} {kk : Nat} {tpos : Pos} {I : Addr} {fpO : List Addr} {n : Nat} {G : Hp → Prop} {Ys : Nat → Hp → List V → Prop} {tn : Nat → Heap → Prop}
    (mem : I ∈ fpO) (obj : ∀ i h, tn i h → ∀ b ∈ fpO, ∃ o, h.get? b = some o ∧ ∀ v, o.data ≠ .cell v) (keep : ∀ i h h', tn i h → (∀ b ∈ fpO, ∀ o, h.get? b = some o → h'.get? b = some o) → tn i h')
    (self : ∀ (A : Around) (i : Nat) (s : Shared) (Q : Value → Shared → Prop) (E : Value → Shared → Prop), tn i s.heap → Q (.ref I) s → wpAny (model P w) A (pyIter (.ref I)) Q E s)
    (at_ : ∀ (X : Cx) (pins : List (Addr × Obj)) (σ : St) (H : Hp) (s : Shared), X.prog = P → X.w = w → X.K = K → X.A.handled = none → Inv X pins σ H s → (∀ b ∈ fpO, FpOk X pins H b) → G H →
      ∃ fp wr Pt Si Mid, WalksT P w X.A I fp wr n Pt Si Mid ∧ (∀ b ∈ wr, b ∈ fpO) ∧ (∀ i, tn i s.heap → Si i s.heap) ∧ (∀ i h, Si i h → tn i h) ∧ (∀ i vals, Pt i vals → ∃ vs, Vals vs vals.toList ∧ vs.length ≤ 10 ∧ Ys i H vs)) :
    Turn P w K (.Tuple elts kk tpos) (ItW n G Ys) fpO I tn where
  mem := mem
  obj := obj
  keep := keep
  item := by
    intro X hP hw hK hc i pins s σ H E J hf st hg
    obtain ⟨fp, wr, Pt, Si, Mid, W, hwr, h1, h2, h3⟩ := at_ X pins σ H s hP hw hK (J.ok.hd hc) J hf hg.2
    subst hP hw hK
    refine W.item i s _ _ hg.1 (h1 i st) fun T vals h' tk hv hT hTup hmid hk => ?_
    refine ⟨.ref T, rfl, W.go elts kk tpos i T { s with heap := h', toks := tk } _ _ hmid fun h'' hst hk2 => ?_⟩
    obtain ⟨vs, rv, hl, hy⟩ := h3 i vals hv
    have hTw : T ∉ wr := W.apart i T h' hmid
    obtain ⟨ob, e1, e2, m, e3⟩ := hTup
    have hT2 : h''.get? T = some ob := hk2 T ob hTw e1
    have new : ObjOk X.prog X.w (upd H T (.tup vs)) h'' T (.tup vs) := ⟨Nat.le_trans hl (by decide), vals.toList, rv, ob, hT2, e2, m, by simpa using e3⟩
    have I1 : Inv X pins σ (upd H T (.tup vs)) { s with heap := h'', toks := tk } := J.turnedNew (t' := tk) (ch := wr) (fun c o hb q => hk2 c o hb (hk c o hb q)) (fun b hb => hf b (hwr b hb)) hT new
    refine ⟨.ref T, _, I1, rfl, ⟨T, vs, rfl, J.hok.fresh hT, rfl, hy⟩, h2 _ _ hst, fun b hb => ?_⟩
    obtain ⟨o, e, _⟩ := obj i _ st b hb
    rw [upd_ne (Nat.ne_of_lt (Nat.lt_of_lt_of_le (Heap.lt_size e) hT))]
    exact (hf b hb).1
  done := by
    intro X hP hw hK hc i pins s σ H E J hf st hg
    obtain ⟨fp, wr, Pt, Si, Mid, W, hwr, h1, h2, h3⟩ := at_ X pins σ H s hP hw hK (J.ok.hd hc) J hf hg.2
    subst hP hw hK
    have e : i = n := hg.1
    subst e
    exact W.done s _ _ (h1 _ st) fun h' tk hk => ⟨rfl, J.turnedL (t' := tk) (ch := wr) (fun c o hb q => hk c o hb q) fun b hb => hf b (hwr b hb)⟩
  self := self

/-! ## what one draws from -/
def Src (P : Program) (w : World) (K : PySem.W.Frag) (u : Value) (n : Nat) (G : Hp → Prop) (Y : Nat → Hp → V → Prop) (o : Obj) (Si : Addr → Nat → Heap → Prop) : Prop :=
  (∀ it h, h.get? it = some o → Si it 0 h) ∧ (∀ it i h, Si it i h → ∃ ob, h.get? it = some ob ∧ ∀ v, ob.data ≠ .cell v) ∧
  (∀ it i h h', Si it i h → (∀ ob, h.get? it = some ob → h'.get? it = some ob) → Si it i h') ∧
  ∀ (X : Cx) (pins : List (Addr × Obj)) (σ : St) (H : Hp) (s : Shared), X.prog = P → X.w = w → X.K = K → Inv X pins σ H s → G H →
    ∃ Ex ext Pv, Begins u o Ex ∧ Ex s.heap ∧ (∀ b ∈ ext, b < s.heap.objs.size ∧ ¬ FpOk X pins H b) ∧
      (∀ (A : Around) (it : Addr), A.handled = none → it ∉ ext → Draws P w A it (it :: ext) n Pv fun i h => Si it i h ∧ Ex h) ∧ ∀ i v, Pv i v → ∃ x, RelV x v ∧ Y i H x
section
variable {P : Program} {w : World} {K : PySem.W.Frag}
theorem src_text (x : Str) (t : Tok) : Src P w K (.str x t) x.cps.size (fun _ => True) (fun i _ v => ∃ c, x.cps[i]? = some c ∧ v = .str ⟨#[c]⟩) { cls := .type (strIterType x), data := .fields #[.str x t, .int 0 0] } (fun it i h => h.IsStrIter it (strIterType x) x t i) := by
  refine ⟨fun it h e => ⟨_, e, rfl, rfl⟩, fun it i h ⟨ob, e, c, d⟩ => ⟨ob, e, fun v z => by rw [d] at z; cases z⟩, fun it i h h' ⟨ob, e, c⟩ k => ⟨ob, k ob e, c⟩, fun X pins σ H s _ _ _ I _ => ?_⟩
  refine ⟨fun _ => True, [], fun i v => ∃ c u, x.cps[i]? = some c ∧ v = .str ⟨#[c]⟩ u, begins_text x t, trivial, fun b hb => (by cases hb), fun A it hh _ => ?_, fun i v ⟨c, u, e, h⟩ => ⟨.str ⟨#[c]⟩, ⟨u, h⟩, c, e, rfl⟩⟩
  have D := Draws.text (prog := P) (w := w) (A := A) hh it x t
  exact ⟨fun i h st => D.live i h st.1, fun i h h' st k => ⟨D.frame i h h' st.1 k, trivial⟩, fun i s Q E hi st q => D.item i s Q E hi st.1 fun y h' tk p st' sb => q y h' tk p ⟨st', trivial⟩ sb, fun s Q E st q => D.done s Q E st.1 q⟩
theorem no_fp {X : Cx} {pins : List (Addr × Obj)} {σ : St} {H : Hp} {s : Shared} {a : Addr} (I : Inv X pins σ H s) (h : (∃ o, H a = some o) ∨ ∃ o, X.K.lookup a = some o) : ¬ FpOk X pins H a := fun f => by
  obtain ⟨f0, _, _, f3, _⟩ := f
  rcases h with ⟨o, e⟩ | ⟨o, e⟩
  · rw [e] at f0; cases f0
  · have eb := I.ok.mod.kin a o e
    rcases f3 with z | z
    · exact I.ok.noex a o eb z
    · have := Heap.lt_size eb
      exact absurd (Nat.lt_of_lt_of_le this (Nat.le_trans I.ok.bsz z)) (Nat.lt_irrefl _)
theorem src_tup (a : Addr) (vs : List V) : Src P w K (.ref a) vs.length (fun H => SqT K H a vs) (fun i _ v => vs[i]? = some v) { cls := .type "tuple_iterator", data := .fields #[.ref a, .int 0 0] } (fun it i h => h.IsTupleIter it a i) := by
  refine ⟨fun it h e => ⟨_, e, rfl, rfl⟩, fun it i h ⟨ob, e, c, d⟩ => ⟨ob, e, fun v z => by rw [d] at z; cases z⟩, fun it i h h' ⟨ob, e, c⟩ k => ⟨ob, k ob e, c⟩, fun X pins σ H s _ _ hK I g => ?_⟩
  subst hK
  obtain ⟨its, rv, p, _⟩ := I.tuple g
  have hl := rv.length
  have hp : s.heap.IsTuple a its.toArray := p
  refine ⟨fun h => h.IsTuple a its.toArray, [a], fun i v => its.toArray[i]? = some v, begins_tuple a its.toArray, hp, fun b hb => ?_, fun A it hh hn => ?_, fun i v e => ?_⟩
  · have : b = a := by simpa using hb
    subst this
    refine ⟨p.lt, no_fp I ?_⟩
    rcases g with (g | ⟨o, g⟩) | ⟨o, _, _, g, _⟩
    · exact .inl ⟨_, g⟩
    · exact .inl ⟨_, g⟩
    · exact .inr ⟨_, g⟩
  · have D := Draws.tuple (prog := P) (w := w) (A := A) hh it a (fun e => hn (by simp [e])) its.toArray
    rw [show vs.length = its.toArray.size by simp [hl]]
    exact D
  · have hi : i < its.length := by
      have := (Array.getElem?_eq_some_iff.mp e).1
      simpa using this
    have hi2 : i < vs.length := by rw [hl]; exact hi
    obtain ⟨u, e2, r⟩ := rv.get (List.getElem?_eq_getElem hi2)
    refine ⟨vs[i], ?_, List.getElem?_eq_getElem hi2⟩
    have e3 : its[i]? = some v := by simpa using e
    rw [e2] at e3; cases e3
    exact r
theorem src_list (a : Addr) (n : Nat) : Src P w K (.ref a) n (fun H => ∃ ws, SqL K H a ws ∧ ws.length = n) (fun i H v => ∀ ws, H a = some (.lst ws) → ws[i]? = some v) { cls := .type "list_iterator", data := .fields #[.ref a, .int 0 0] } (fun it i h => h.IsListIter it a i) := by
  refine ⟨fun it h e => ⟨_, e, rfl, rfl⟩, fun it i h ⟨ob, e, c, d⟩ => ⟨ob, e, fun v z => by rw [d] at z; cases z⟩, fun it i h h' ⟨ob, e, c⟩ k => ⟨ob, k ob e, c⟩, fun X pins σ H s _ _ hK I g => ?_⟩
  subst hK
  obtain ⟨vs, g, rfl⟩ := g
  obtain ⟨its, rv, p, _⟩ := I.list g
  have hl := rv.length
  refine ⟨fun h => h.IsList a its.toArray, [a], fun i v => its.toArray[i]? = some v, begins_list a its.toArray, p.isList, fun b hb => ?_, fun A it hh hn => ?_, fun i v e => ?_⟩
  · have : b = a := by simpa using hb
    subst this
    refine ⟨p.lt, no_fp I ?_⟩
    rcases g with (g | ⟨o, g⟩) | ⟨o, _, _, g, _⟩
    · exact .inl ⟨_, g⟩
    · exact .inl ⟨_, g⟩
    · exact .inr ⟨_, g⟩
  · have D := Draws.list (prog := P) (w := w) (A := A) hh it a (fun e => hn (by simp [e])) its.toArray
    rw [show vs.length = its.toArray.size by simp [hl]]
    exact D
  · have hi : i < its.length := by
      have := (Array.getElem?_eq_some_iff.mp e).1
      simpa using this
    have hi2 : i < vs.length := by rw [hl]; exact hi
    obtain ⟨u, e2, r⟩ := rv.get (List.getElem?_eq_getElem hi2)
    refine ⟨vs[i], ?_, fun ws h => ?_⟩
    · have e3 : its[i]? = some v := by simpa using e
      rw [e2] at e3; cases e3
      exact r
    · rw [I.list_inj (SqL.of h) g]
      exact List.getElem?_eq_getElem hi2
theorem src_rol (a : Addr) (vs : List V) : Src P w K (.ref a) vs.length (fun H => SqLi K H a vs) (fun i _ v => vs[i]? = some v) { cls := .type "list_iterator", data := .fields #[.ref a, .int 0 0] } (fun it i h => h.IsListIter it a i) := by
  refine ⟨fun it h e => ⟨_, e, rfl, rfl⟩, fun it i h ⟨ob, e, c, d⟩ => ⟨ob, e, fun v z => by rw [d] at z; cases z⟩, fun it i h h' ⟨ob, e, c⟩ k => ⟨ob, k ob e, c⟩, fun X pins σ H s _ _ hK I g => ?_⟩
  subst hK
  obtain ⟨its, rv, p, _⟩ := I.list g.sq
  have hl := rv.length
  refine ⟨fun h => h.IsList a its.toArray, [a], fun i v => its.toArray[i]? = some v, begins_list a its.toArray, p.isList, fun b hb => ?_, fun A it hh hn => ?_, fun i v e => ?_⟩
  · have : b = a := by simpa using hb
    subst this
    refine ⟨p.lt, no_fp I ?_⟩
    rcases g with ⟨o, g⟩ | ⟨o, _, _, g, _⟩
    · exact .inl ⟨_, g⟩
    · exact .inr ⟨_, g⟩
  · have D := Draws.list (prog := P) (w := w) (A := A) hh it a (fun e => hn (by simp [e])) its.toArray
    rw [show vs.length = its.toArray.size by simp [hl]]
    exact D
  · have hi : i < its.length := by
      have := (Array.getElem?_eq_some_iff.mp e).1
      simpa using this
    have hi2 : i < vs.length := by rw [hl]; exact hi
    obtain ⟨u, e2, r⟩ := rv.get (List.getElem?_eq_getElem hi2)
    refine ⟨vs[i], ?_, List.getElem?_eq_getElem hi2⟩
    have e3 : its[i]? = some v := by simpa using e
    rw [e2] at e3; cases e3
    exact r
end

/-! ### zip of two -/
theorem pie_zip {X : Cx} {pins : List (Addr × Obj)} {σ : St} {H : Hp} {s : Shared} {elts : List Expr} {kk : Nat} {tpos : Pos} {u1 u2 : Value} {n1 n2 : Nat} {G1 G2 : Hp → Prop} {Y1 Y2 : Nat → Hp → V → Prop} {o1 o2 : Obj} {S1 S2 : Addr → Nat → Heap → Prop} {R : It → Hp → Prop} {E : Value → Shared → Prop}
    (A1 : Src X.prog X.w X.K u1 n1 G1 Y1 o1 S1) (A2 : Src X.prog X.w X.K u2 n2 G2 Y2 o2 S2) (I : Inv X pins σ H s) (g1 : G1 H) (g2 : G2 H)
    (q : R (ItW (min n1 n2) (fun H => G1 H ∧ G2 H) fun i H vs => ∃ x y, vs = [x, y] ∧ Y1 i H x ∧ Y2 i H y) H) :
    wpAny (model X.prog X.w) X.A (call (.type "zip") [u1, u2]) (fun v s1 => wpAny (model X.prog X.w) X.A (pyIter v) (PIE X pins σ (.Tuple elts kk tpos) R) E s1) E s := by
  obtain ⟨a0, a1, a2, a3⟩ := A1
  obtain ⟨b0, b1, b2, b3⟩ := A2
  obtain ⟨Ex1, ext1, P1, B1, e1, f1, D1, _⟩ := a3 X pins σ H s rfl rfl rfl I g1
  obtain ⟨Ex2, ext2, P2, B2, e2, f2, D2, _⟩ := b3 X pins σ H s rfl rfl rfl I g2
  generalize hN : s.heap.objs.size = N at *
  refine zip_begins2 B1 B2 e1 e2 fun h' hz hTI hTO h1 h2 hsz hk => wpAny_pyIter_zip hz ?_
  rw [hN] at hz hTI hTO h1 h2 hsz ⊢
  have I2 : Inv X pins σ H { s with heap := h' } := I.kept (t' := s.toks) hk
  refine ⟨N + 4, [N + 4, N + 2, N + 3, N, N + 1], fun i h => IsZip h (N + 4) (N + 2) (N + 3) .none ∧ IsTupOf2 h (N + 2) (.ref N) (.ref (N + 1)) ∧ (∃ x y, IsTupOf2 h (N + 3) x y) ∧ S1 N i h ∧ S2 (N + 1) i h, _, H, rfl, I2, ?_, ⟨hz, hTI, ⟨_, _, hTO⟩, a0 _ _ h1, b0 _ _ h2⟩, fun c hcm => ?_, q⟩
  · refine turn_W (by simp) (fun i h st b hb => ?_) (fun i h h' st k => ?_) (fun A i s Q E st h => wpAny_pyIter_zip st.1 h) (fun X' pins' σ' H' s' hP hw hK hh J hf g => ?_)
    · obtain ⟨z1, z2, ⟨x, y, z3⟩, z4, z5⟩ := st
      have e' : b = N + 4 ∨ b = N + 2 ∨ b = N + 3 ∨ b = N ∨ b = N + 1 := by simpa using hb
      rcases e' with r | r | r | r | r
      · rw [r]; exact ⟨_, z1, fun v q => nomatch q⟩
      · rw [r]; exact ⟨_, z2, fun v q => nomatch q⟩
      · rw [r]; exact ⟨_, z3, fun v q => nomatch q⟩
      · rw [r]; exact a1 _ _ _ z4
      · rw [r]; exact b1 _ _ _ z5
    · obtain ⟨z1, z2, ⟨x, y, z3⟩, z4, z5⟩ := st
      exact ⟨k _ (by simp) _ z1, k _ (by simp) _ z2, ⟨x, y, k _ (by simp) _ z3⟩, a2 _ _ _ _ z4 fun ob r => k _ (by simp) ob r, b2 _ _ _ _ z5 fun ob r => k _ (by simp) ob r⟩
    · obtain ⟨Ex1, ext1, P1, _, x1, f1, D1, r1⟩ := a3 X' pins' σ' H' s' hP hw hK J g.1
      obtain ⟨Ex2, ext2, P2, _, x2, f2, D2, r2⟩ := b3 X' pins' σ' H' s' hP hw hK J g.2
      have n1 : ∀ b ∈ [N + 4, N + 2, N + 3, N, N + 1], b ∉ ext1 := fun b hb z => (f1 b z).2 (hf b hb)
      have n2 : ∀ b ∈ [N + 4, N + 2, N + 3, N, N + 1], b ∉ ext2 := fun b hb z => (f2 b z).2 (hf b hb)
      have ne : ∀ i j : Nat, i ≠ j → (N + i : Nat) ≠ N + j := fun i j h e => h (by omega)
      have SP : ZipSep2 (N + 4) (N + 2) (N + 3) N (N + 1) (N :: ext1) ((N + 1) :: ext2) :=
        { TIz := ne 2 4 (by decide), TOz := ne 3 4 (by decide), TITO := ne 2 3 (by decide), TIi1 := ne 2 0 (by decide), mem1 := List.mem_cons_self, mem2 := List.mem_cons_self, TIi2 := ne 2 1 (by decide)
          zf1 := fun h => (List.mem_cons.mp h).elim (ne 4 0 (by decide)) (n1 _ (by simp)), Tf1 := fun h => (List.mem_cons.mp h).elim (ne 3 0 (by decide)) (n1 _ (by simp))
          zf2 := fun h => (List.mem_cons.mp h).elim (ne 4 1 (by decide)) (n2 _ (by simp)), Tf2 := fun h => (List.mem_cons.mp h).elim (ne 3 1 (by decide)) (n2 _ (by simp))
          sep1_2 := fun h => (List.mem_cons.mp h).elim (ne 0 1 (by decide)) (n2 _ (by simp)), sep2_1 := fun h => (List.mem_cons.mp h).elim (ne 1 0 (by decide)) (n1 _ (by simp)) }
      refine ⟨_, _, _, _, _, WalksT.zipD2 SP (D1 X'.A.in1 N hh (n1 _ (by simp))) (D2 X'.A.in1 (N + 1) hh (n2 _ (by simp))), fun b hb => ?_, fun i st => ⟨st.1, st.2.1, st.2.2.1, ⟨st.2.2.2.1, x1⟩, st.2.2.2.2, x2⟩, fun i h st => ⟨st.1, st.2.1, st.2.2.1, st.2.2.2.1.1, st.2.2.2.2.1⟩, fun i vals hv => ?_⟩
      · have e' : b = N + 4 ∨ b = N + 3 ∨ b = N ∨ b = N + 1 := by simpa using hb
        rcases e' with r | r | r | r <;> simp [r]
      · obtain ⟨y1, y2, p1, p2, rfl⟩ := hv
        obtain ⟨v1, q1, q1'⟩ := r1 i y1 p1
        obtain ⟨v2, q2, q2'⟩ := r2 i y2 p2
        exact ⟨[v1, v2], .cons q1 (.cons q2 .nil), by simp, v1, v2, rfl, q1', q2'⟩
  · have hle : s.heap.objs.size ≤ c := by
      rw [hN]
      have e' : c = N + 4 ∨ c = N + 2 ∨ c = N + 3 ∨ c = N ∨ c = N + 1 := by simpa using hcm
      rcases e' with r | r | r | r | r <;> rw [r]
      · exact Nat.le_add_right _ _
      · exact Nat.le_add_right _ _
      · exact Nat.le_add_right _ _
      · exact Nat.le_refl _
      · exact Nat.le_add_right _ _
    exact I.fpOk hle (I.hok.fresh hle)

/-! ### enumerate -/
set_option maxHeartbeats 8000000 in
theorem enum_new1 {v : Value} {o : Obj} {Hx : Heap → Prop} (Bg : Begins v o Hx) :
    Meets (Builtin.«enumerate.__new__» ⟨[.type "enumerate", v], []⟩) (fun _ R s => Hx s.heap ∧
      R (.ok (.ret (.ref (s.heap.push o).objs.size))) { s with heap := (s.heap.push o).push { cls := .type "enumerate", data := .fields #[.none, .bool false, .ref s.heap.objs.size, rawInt 0, .none, .none] } }) :=
  .of_wp fun prog w A R s h => by
    obtain ⟨hp, g, d, tk, os⟩ := s
    obtain ⟨h1, h⟩ := h
    have hs := sub_enumerate
    have qi : ∀ {A' : Around} {E : Value → Shared → Prop} {Q : Value → Shared → Prop}, Q (.ref hp.objs.size) ⟨hp.push o, g, d, tk, os⟩ → wpAny (model prog w) A' (pyIter v) Q E ⟨hp, g, d, tk, os⟩ :=
      fun q => Bg.iter prog w _ _ ⟨hp, g, d, tk, os⟩ _ h1 q
    wp_walk using qi
    refine wpAny_stack_any fun sk => wpAny_pure ?_
    split
    · rename_i c _ _ _ _ _
      cases (c == Value.type "enumerate") <;> (wp_walk using qi; exact ⟨_, rfl, h⟩)
    · wp_walk using qi
      exact ⟨_, rfl, h⟩
theorem enum_call1 {prog : Program} {w : World} {A : Around} {E : Value → Shared → Prop} {s : Shared} {v : Value} {o : Obj} {Hx : Heap → Prop} {Q : Value → Shared → Prop} (Bg : Begins v o Hx) (h1 : Hx s.heap)
    (h : ∀ h', IsEnum h' (s.heap.objs.size + 1) s.heap.objs.size 0 .none → h'.get? s.heap.objs.size = some o → (∀ b ob, s.heap.get? b = some ob → h'.get? b = some ob) → Q (.ref (s.heap.objs.size + 1)) { s with heap := h' }) :
    wpAny (model prog w) A (call (.type "enumerate") [v]) Q E s := by
  refine callType_new F.called_enumerate (by decide) (F.typeCall_enumerate_1 _) (F.newCall_enumerate_1 _) (fun obj => F.args_object_init_2 obj _) F.entry_enumerate_new (enum_new1 Bg) ⟨h1, ?_⟩
  have hz : (s.heap.push o).objs.size = s.heap.objs.size + 1 := Heap.size_push ..
  show _ ∧ _
  rw [hz]
  have he : IsEnum ((s.heap.push o).push { cls := .type "enumerate", data := .fields #[.none, .bool false, .ref s.heap.objs.size, rawInt 0, .none, .none] }) (s.heap.objs.size + 1) s.heap.objs.size 0 .none := by
    have e := Heap.get?_push_size (s.heap.push o) (o := { cls := .type "enumerate", data := .fields #[.none, .bool false, .ref s.heap.objs.size, rawInt 0, .none, .none] }) rfl
    rw [hz] at e; exact e
  exact ⟨⟨_, he, rfl⟩, h _ he (Heap.get?_push_of_some _ (Heap.get?_push_size _ Bg.free)) fun b ob x => Heap.get?_push_of_some _ (Heap.get?_push_of_some _ x)⟩
theorem pie_enum {X : Cx} {pins : List (Addr × Obj)} {σ : St} {H : Hp} {s : Shared} {elts : List Expr} {kk : Nat} {tpos : Pos} {u1 : Value} {n1 : Nat} {G1 : Hp → Prop} {Y1 : Nat → Hp → V → Prop} {o1 : Obj} {S1 : Addr → Nat → Heap → Prop} {R : It → Hp → Prop} {E : Value → Shared → Prop}
    (A1 : Src X.prog X.w X.K u1 n1 G1 Y1 o1 S1) (I : Inv X pins σ H s) (g1 : G1 H) (q : R (ItW n1 G1 fun i H vs => ∃ x, vs = [.int (i : Nat), x] ∧ Y1 i H x) H) :
    wpAny (model X.prog X.w) X.A (call (.type "enumerate") [u1]) (fun v s1 => wpAny (model X.prog X.w) X.A (pyIter v) (PIE X pins σ (.Tuple elts kk tpos) R) E s1) E s := by
  obtain ⟨a0, a1, a2, a3⟩ := A1
  obtain ⟨Ex1, ext1, P1, B1, e1, f1, D1, _⟩ := a3 X pins σ H s rfl rfl rfl I g1
  generalize hN : s.heap.objs.size = N at *
  refine enum_call1 B1 e1 fun h' he h1 hk => wpAny_pyIter_enum (by rw [hN] at he ⊢; exact he) ?_
  rw [hN] at he h1
  have I2 : Inv X pins σ H { s with heap := h' } := I.kept (t' := s.toks) hk
  rw [hN]
  have ne : ∀ i j : Nat, i ≠ j → (N + i : Nat) ≠ N + j := fun i j h e => h (by omega)
  refine ⟨N + 1, [N + 1, N], fun i h => (∃ old, IsEnum h (N + 1) N (0 + (i : Int)) old) ∧ S1 N i h, _, H, rfl, I2, ?_, ⟨⟨.none, (by
    have e : (0 : Int) + ((0 : Nat) : Int) = 0 := by simp
    rw [e]; exact he)⟩, a0 _ _ h1⟩, fun c hcm => ?_, q⟩
  · refine turn_W (by simp) (fun i h st b hb => ?_) (fun i h h' st k => ?_) (fun A i s Q E st h => ?_) (fun X' pins' σ' H' s' hP hw hK hh J hf g => ?_)
    · obtain ⟨⟨x, z1⟩, z4⟩ := st
      have e' : b = N + 1 ∨ b = N := by simpa using hb
      rcases e' with r | r
      · rw [r]; exact ⟨_, z1, fun v q => nomatch q⟩
      · rw [r]; exact a1 _ _ _ z4
    · obtain ⟨⟨x, z1⟩, z4⟩ := st
      exact ⟨⟨x, k _ (by simp) _ z1⟩, a2 _ _ _ _ z4 fun ob r => k _ (by simp) ob r⟩
    · obtain ⟨⟨x, z1⟩, z4⟩ := st
      exact wpAny_pyIter_enum z1 h
    · obtain ⟨Ex1, ext1, P1, _, x1, f1, D1, r1⟩ := a3 X' pins' σ' H' s' hP hw hK J g
      have n1 : ∀ b ∈ [N + 1, N], b ∉ ext1 := fun b hb z => (f1 b z).2 (hf b hb)
      refine ⟨_, _, _, _, _, WalksT.enumFrom 0 (D1 X'.A.in1 N hh (n1 _ (by simp))) (N + 1) (ne 1 0 (by decide)) (fun h => (List.mem_cons.mp h).elim (ne 1 0 (by decide)) (n1 _ (by simp))) List.mem_cons_self, fun b hb => ?_, fun i st => ⟨st.1, st.2, x1⟩, fun i h st => ⟨st.1, st.2.1⟩, fun i vals hv => ?_⟩
      · have e' : b = N + 1 ∨ b = N := by simpa using hb
        rcases e' with r | r <;> simp [r]
      · obtain ⟨t, y1, p1, rfl⟩ := hv
        obtain ⟨v1, q1, q1'⟩ := r1 i y1 p1
        refine ⟨[.int (i : Nat), v1], .cons ⟨t, ?_⟩ (.cons q1 .nil), by simp, v1, rfl, q1'⟩
        rw [Int.zero_add]
  · have hle : s.heap.objs.size ≤ c := by
      rw [hN]
      have e' : c = N + 1 ∨ c = N := by simpa using hcm
      rcases e' with r | r <;> rw [r]
      · exact Nat.le_add_right _ _
      · exact Nat.le_refl _
    exact I.fpOk hle (I.hok.fresh hle)

/-! ### by data -/
inductive SrcD (m : List Ob) : D → List D → (List Ob → Prop) → Prop where
  | text (z : Str) : SrcD m (.str z) (z.cps.toList.map fun c => .str ⟨#[c]⟩) fun _ => True
  | tup (xs : List D) : SrcD m (.tup xs) xs fun _ => True
  | rol (xs : List D) : SrcD m (.rol xs) xs fun _ => True
  | list {k : Nat} {xs : List D} (h : m[k]? = some (.lst xs)) : SrcD m (.obj k) xs fun m' => m'[k]? = some (.lst xs)
theorem SrcD.src {P : Program} {w : World} {K : PySem.W.Frag} {B : Bs} {θ : List Addr} {m : List Ob} {H : Hp} {d : D} {xs : List D} {G : List Ob → Prop} {v : V} {u : Value} (h : SrcD m d xs G) (S : Sat K B θ m H) (r : Rep K θ H d v) (ru : RelV v u) :
    ∃ Gh Y o Si, Src P w K u xs.length Gh Y o Si ∧ Gh H ∧ ∀ θ' ms' H', ImmP H H' → θ'.take θ.length = θ → Sat K B θ' ms' H' → G ms' → Gh H' ∧ ∀ i x, Y i H' x → ∃ d, xs[i]? = some d ∧ Rep K θ' H' d x := by
  cases h with
  | text z =>
    cases rep_str r
    obtain ⟨t, rfl⟩ := ru
    refine ⟨_, _, _, _, by rw [List.length_map, Array.length_toList]; exact src_text z t, trivial, fun θ' ms' H' im t' S' _ => ⟨trivial, fun i x hy => ?_⟩⟩
    obtain ⟨c, hc, rfl⟩ := hy
    exact ⟨.str ⟨#[c]⟩, by rw [List.getElem?_map, Array.getElem?_toList, hc]; rfl, mk_str⟩
  | tup =>
    obtain ⟨a, vs, rfl, s, rs⟩ := rep_tup r
    cases ru
    refine ⟨_, _, _, _, by rw [← rs.length]; exact src_tup a vs, s, fun θ' ms' H' im t' S' _ => ⟨im.sqt s, fun i x hy => ?_⟩⟩
    obtain ⟨d, e, rd⟩ := rs.getV hy
    exact ⟨d, e, Rep.mono (le_of_take t') im _ _ rd⟩
  | rol =>
    obtain ⟨a, vs, rfl, s, rs⟩ := rep_rol r
    cases ru
    refine ⟨_, _, _, _, by rw [← rs.length]; exact src_rol a vs, s, fun θ' ms' H' im t' S' _ => ⟨im.sqli s, fun i x hy => ?_⟩⟩
    obtain ⟨d, e, rd⟩ := rs.getV hy
    exact ⟨d, e, Rep.mono (le_of_take t') im _ _ rd⟩
  | @list k _ hk =>
    obtain ⟨a, e, rfl⟩ := rep_obj r
    cases ru
    obtain ⟨vs, s, rs⟩ := S.obs k _ a hk e
    refine ⟨_, _, _, _, src_list a xs.length, ⟨vs, SqL.of s, rs.length⟩, fun θ' ms' H' im t' S' hG => ?_⟩
    obtain ⟨ws, s2, rs2⟩ := S'.obs k _ a hG (le_of_take t' k a e)
    refine ⟨⟨ws, SqL.of s2, rs2.length⟩, fun i x hy => ?_⟩
    exact rs2.getV (hy ws s2)
section
variable {X : Cx} {B : Bs} {ds : List (Option D)} {ms : List Ob} {pos : Pos} {R : List D → (List Ob → Prop) → List Ob → Prop}
def zipD (xs ys : List D) : List D := List.zipWith (fun x y => .tup [x, y]) xs ys
theorem wi_zip {a b : Expr} {p tpos : Pos} {elts : List Expr} {kk : Nat} (hm : X.mg "zip" = none) (hg : Gl X "zip")
    (h : WA X B ds ms [a, b] fun dl m => ∃ d1 d2 xs ys G1 G2, dl = [d1, d2] ∧ SrcD m d1 xs G1 ∧ SrcD m d2 ys G2 ∧ R (zipD xs ys) (fun m' => G1 m' ∧ G2 m') m)
    (hs : starEach [a, b] X.env = (false, eval a X.env) :: starEach [b] X.env := by rfl) (hpl : (backTo pos (starEach [b] X.env)).any (·.1) = false := by rfl) :
    WI X B ds ms (.Tuple elts kk tpos) (.Call (.Name "zip" p) [a, b] [] pos) R := .mk fun σ H θ S L pins s I => by
  refine Call_ (ld_blt I hg hm PyProof.Rows.boot_zip (PyProof.Rows.callWith_type1 (thn (h σ H θ S L pos pins s I) fun us s1 ⟨vs, H1, I1, rv, dl, m, more, r, im, S1, d1, d2, xs, ys, G1, G2, ed, c1, c2, q⟩ => ?_) hs hpl))
  subst ed
  obtain ⟨v1, v2, rfl, r1, r2⟩ := reps2 r
  obtain ⟨u1, u2, rfl, q1, q2⟩ := Vals.two rv
  obtain ⟨Gh1, Y1, o1, S1', A1, g1, k1⟩ := c1.src (P := X.prog) (w := X.w) S1 r1 q1
  obtain ⟨Gh2, Y2, o2, S2', A2, g2, k2⟩ := c2.src (P := X.prog) (w := X.w) S1 r2 q2
  refine pie_zip (R := fun J H1 => ∃ items G m1 more, ImmP H H1 ∧ Sat X.K B (θ ++ more) m1 H1 ∧ R items G m1 ∧ WalkD X.K B (θ ++ more) H1 J items G) A1 A2 I1 g1 g2 ⟨zipD xs ys, _, m, more, im, S1, q, fun H => Gh1 H ∧ Gh2 H, fun i H v H' => ∃ T vs, v = .ref T ∧ H T = none ∧ H' = upd H T (.tup vs) ∧ ∃ x y, vs = [x, y] ∧ Y1 i H x ∧ Y2 i H y, ?_, fun θ' ms' H' im' t' S' hG => ⟨(k1 θ' ms' H' im' t' S' hG.1).1, (k2 θ' ms' H' im' t' S' hG.2).1⟩, fun i x H' H2 θ' ms' hi im' t' S' hG y => ?_⟩
  · have : (zipD xs ys).length = min xs.length ys.length := by unfold zipD; rw [List.length_zipWith]
    rw [this]
    exact walk_W
  · obtain ⟨T, vs, rfl, hT, rfl, x1, x2, rfl, y1, y2⟩ := y
    obtain ⟨e1, p1, w1⟩ := (k1 θ' ms' H' im' t' S' hG.1).2 i x1 y1
    obtain ⟨e2, p2, w2⟩ := (k2 θ' ms' H' im' t' S' hG.2).2 i x2 y2
    refine ⟨.tup [e1, e2], by unfold zipD; rw [List.getElem?_zipWith, p1, p2], fun b o hb => by rw [upd_ne (ne_of_none hb hT)]; exact hb, S'.fresh hT, mk_tup (SqT.of upd_same) (Reps.mono (Le.refl _) (ImmP.new hT) _ _ (mk_cons w1 (mk_cons w2 mk_nil)))⟩
def enumD (xs : List D) : List D := List.zipWith (fun (i : Nat) x => .tup [.int (i : Nat), x]) (List.range xs.length) xs
theorem wi_enum {a : Expr} {p tpos : Pos} {elts : List Expr} {kk : Nat} (hm : X.mg "enumerate" = none) (hg : Gl X "enumerate")
    (h : WE X B ds ms a fun d m => ∃ xs G, SrcD m d xs G ∧ R (enumD xs) G m)
    (hs : starEach [a] X.env = (false, eval a X.env) :: starEach [] X.env := by rfl) (hpl : (backTo pos (starEach [] X.env)).any (·.1) = false := by rfl) :
    WI X B ds ms (.Tuple elts kk tpos) (.Call (.Name "enumerate" p) [a] [] pos) R := .mk fun σ H θ S L pins s I => by
  have hA : PA X [a] (tCons (tCan X a) tNil) := pa_cons pe_can pa_nil hs
  have hq : tCons (tCan X a) tNil σ H fun vs H1 => ∃ v, vs = [v] ∧ PV X.K B θ H (fun d m => ∃ xs G, SrcD m d xs G ∧ R (enumD xs) G m) v H1 :=
    (h σ H θ S L).mono fun v H1 z => show ∃ w, [v] = [w] ∧ _ from ⟨v, rfl, z⟩
  refine Call_ (ld_blt I hg hm boot_enumerate (PyProof.Rows.callWith_type1 (thn (hA.run pos pins s σ H _ I hq) fun us s1 ⟨vs, H1, I1, rv, v1, ev, d1, m, more, r1, im, S1, xs, G1, c1, q⟩ => ?_) hs hpl))
  subst ev
  obtain ⟨u1, rfl, q1⟩ := Vals.one rv
  obtain ⟨Gh1, Y1, o1, S1', A1, g1, k1⟩ := c1.src (P := X.prog) (w := X.w) S1 r1 q1
  refine pie_enum (R := fun J H1 => ∃ items G m1 more, ImmP H H1 ∧ Sat X.K B (θ ++ more) m1 H1 ∧ R items G m1 ∧ WalkD X.K B (θ ++ more) H1 J items G) A1 I1 g1 ⟨enumD xs, _, m, more, im, S1, q, Gh1, fun i H v H' => ∃ T vs, v = .ref T ∧ H T = none ∧ H' = upd H T (.tup vs) ∧ ∃ x, vs = [.int (i : Nat), x] ∧ Y1 i H x, ?_, fun θ' ms' H' im' t' S' hG => (k1 θ' ms' H' im' t' S' hG).1, fun i x H' H2 θ' ms' hi im' t' S' hG y => ?_⟩
  · have : (enumD xs).length = xs.length := by unfold enumD; rw [List.length_zipWith, List.length_range]; omega
    rw [this]
    exact walk_W
  · obtain ⟨T, vs, rfl, hT, rfl, x1, rfl, y1⟩ := y
    obtain ⟨e1, p1, w1⟩ := (k1 θ' ms' H' im' t' S' hG).2 i x1 y1
    have hi2 : i < xs.length := (List.getElem?_eq_some_iff.mp p1).1
    refine ⟨.tup [.int (i : Nat), e1], by unfold enumD; rw [List.getElem?_zipWith, p1, List.getElem?_range hi2], fun b o hb => by rw [upd_ne (ne_of_none hb hT)]; exact hb, S'.fresh hT, mk_tup (SqT.of upd_same) (Reps.mono (Le.refl _) (ImmP.new hT) _ _ (mk_cons mk_int (mk_cons w1 mk_nil)))⟩

/-! ## data as a whole: ==, repr -/
mutual
inductive Py (ms : List Ob) : D → PyData → Prop
  | non : Py ms .non .none
  | bl (b : Bool) : Py ms (.bl b) (.bool b)
  | int (i : Int) : Py ms (.int i) (.int i)
  | str (x : Str) : Py ms (.str x) (.str x)
  | tup {ds : List D} {ps : List PyData} : PyAll ms ds ps → Py ms (.tup ds) (.tuple ps)
  | rol {ds : List D} {ps : List PyData} : PyAll ms ds ps → Py ms (.rol ds) (.list ps)
  | lst {k : Nat} {ds : List D} {ps : List PyData} : ms[k]? = some (.lst ds) → PyAll ms ds ps → Py ms (.obj k) (.list ps)
inductive PyAll (ms : List Ob) : List D → List PyData → Prop
  | nil : PyAll ms [] []
  | cons {d : D} {ds : List D} {p : PyData} {ps : List PyData} : Py ms d p → PyAll ms ds ps → PyAll ms (d :: ds) (p :: ps)
end
section
variable {K : PySem.W.Frag} {θ : List Addr} {H : Hp} {m : List Ob}
mutual
theorem Py.dp (S : Sat K B θ m H) : ∀ (p : PyData) (d : D) (v : V), Py m d p → Rep K θ H d v → Dp K H v p
  | .none, _, _, h, r => by cases h; rw [rep_non r]; exact .non
  | .bool _, _, _, h, r => by cases h; rw [rep_bl r]; exact .bl _
  | .int _, _, _, h, r => by cases h; rw [rep_int r]; exact .int _
  | .str _, _, _, h, r => by cases h; rw [rep_str r]; exact .str _
  | .tuple ps, _, _, h, r => by
    cases h with
    | tup ha =>
      obtain ⟨a, vs, rfl, s, rs⟩ := rep_tup r
      exact .tup s (PyAll.dp S ps _ vs ha rs)
  | .list ps, _, _, h, r => by
    cases h with
    | lst hk ha =>
      obtain ⟨a, e, rfl⟩ := rep_obj r
      obtain ⟨vs, s, rs⟩ := S.obs _ _ a hk e
      exact .lst (SqL.of s) (PyAll.dp S ps _ vs ha rs)
    | rol ha =>
      obtain ⟨a, vs, rfl, s, rs⟩ := rep_rol r
      exact .lst s.sq (PyAll.dp S ps _ vs ha rs)
  | .dict _, _, _, h, _ => by cases h
theorem PyAll.dp (S : Sat K B θ m H) : ∀ (ps : List PyData) (ds : List D) (vs : List V), PyAll m ds ps → Reps K θ H ds vs → DpAll K H vs ps
  | [], _, _, h, r => by cases h; rw [reps_nil r]; exact .nil
  | p :: ps, _, _, h, r => by
    cases h with
    | cons h1 h2 =>
      obtain ⟨v, vs', rfl, r1, r2⟩ := reps_cons r
      exact .cons (Py.dp S p _ v h1 r1) (PyAll.dp S ps _ vs' h2 r2)
end
end
theorem wo_eqD {Q : D → List Ob → Prop} {d e : D} {p q : PyData} (hu : X.A.units + 64 < cLine) (h1 : Py ms d p) (h2 : Py ms e q) (s1 : SeqAt.shaped p = true) (s2 : SeqAt.shaped q = true) (hq : Q (.bl (PyData.eqv p q)) ms) : WO X B ms (compareOp .Eq) d e Q :=
  WO.of (op_eqD hu) fun H θ x y S r1 r2 => ⟨p, q, Py.dp S p d x h1 r1, Py.dp S q e y h2 r2, s1, s2, pv_same S mk_bl hq⟩
theorem wo_neD {Q : D → List Ob → Prop} {d e : D} {p q : PyData} (hu : X.A.units + 64 < cLine) (h1 : Py ms d p) (h2 : Py ms e q) (s1 : SeqAt.shaped p = true) (s2 : SeqAt.shaped q = true) (hq : Q (.bl (!PyData.eqv p q)) ms) : WO X B ms (compareOp .NotEq) d e Q :=
  WO.of (op_neD hu) fun H θ x y S r1 r2 => ⟨p, q, Py.dp S p d x h1 r1, Py.dp S q e y h2 r2, s1, s2, pv_same S mk_bl hq⟩
theorem reads_str {h : Heap} {v : Value} {as : List Addr} {x : Str} (r : Reads h v (.str x) as) : ∃ t, v = .str x t := by cases r; exact ⟨_, rfl⟩
theorem call_reprD (hgd : X.A.guards = some []) (hu : X.A.units + 70 < cLine) : CallR X (.builtin "repr") (fun xs H Q => ∃ v d, xs = [v] ∧ Dp X.K H v d ∧ d.showable = true ∧ d.hasDict = false ∧ d.depth ≤ 64 ∧ d.shown.length ≤ sizeLine ∧ Q (.str d.shown) H) := by
  intro pins s σ H xs us Q I r h
  obtain ⟨v, d, rfl, hd, hs, hn, hdp, hz, q⟩ := h
  obtain ⟨u, rfl, rv⟩ := Vals.one r
  obtain ⟨as, rd⟩ := Dp.reads I d v u hd rv
  have fin : ∀ t k, EP X pins σ Q (.str d.shown t) { s with toks := k } := fun t k => ⟨.str d.shown, H, I.tok k, ⟨t, rfl⟩, q⟩
  cases hd with
  | non => cases rv; exact PySem.P.repr_of_none (fin _ _)
  | bl b => cases rv; exact PySem.P.repr_of_bool (by have := fin s.toks (s.toks + 1); rw [show (PyData.bool b).shown = (if b then "True" else "False" : Str) by simp only [PyData.shown]] at this; exact this)
  | int i =>
    obtain ⟨t, rfl⟩ := rv
    exact PySem.P.repr_of_int (by simpa [PyData.showable] using hs) (by have := fin s.toks (s.toks + 1); simp only [PyData.shown] at this; exact this)
  | str x =>
    obtain ⟨t, rfl⟩ := rv
    exact PySem.P.repr_of_str (by have := fin s.toks (s.toks + 1); simp only [PyData.shown] at this; exact this) (by simpa [PyData.shown] using hz)
  | lst s0 ha =>
    cases rv
    exact repr_of_reads' rd hs (PyData.noDict_hsm hn) hgd (by omega) (fun _ _ e => e) (fun h' t tk hk => ⟨.str _, H, I.kept (t' := tk) hk, ⟨t, rfl⟩, q⟩) hz
  | tup s0 ha =>
    cases rv
    exact repr_of_reads' rd hs (PyData.noDict_hsm hn) hgd (by omega) (fun _ _ e => e) (fun h' t tk hk => ⟨.str _, H, I.kept (t' := tk) hk, ⟨t, rfl⟩, q⟩) hz
theorem wc_repr {Q : D → List Ob → Prop} {d : D} {p : PyData} (hgd : X.A.guards = some []) (hu : X.A.units + 70 < cLine) (h : Py ms d p) (hs : p.showable = true) (hn : p.hasDict = false) (hd : p.depth ≤ 64) (hz : p.shown.length ≤ sizeLine) (hq : Q (.str p.shown) ms) : WC X B ms (.builtin "repr") [d] Q :=
  WC.of (call_reprD hgd hu) fun H θ vs S r0 => by
    obtain ⟨v, rfl, r⟩ := reps1 r0
    exact ⟨v, p, rfl, Py.dp S p d v h r, hs, hn, hd, hz, pv_same S mk_str hq⟩
end
end VL

namespace VL
open PySem PySem.Spec PyProof.Rows L2

/-! ## dict comprehensions -/
section
variable {X : Cx} {B : Bs} {ds : List (Option D)} {ms : List Ob} {Q : D → List Ob → Prop} {elt kx vx tg iter : Expr} {ifs : List Expr} {scope : Scope} {own : List (Str × Nat)} {pos : Pos} {g : TG} {app : D → List (Option D) → Option (List (Option D))}
def DcWord (X : Cx) (ds : List (Option D)) (scope : Scope) (vs : List Nat) (app : D → List (Option D) → Option (List (Option D))) (kx vx : Expr) (items : List D) (G : List Ob → Prop) (m : List Ob) (Q : D → List Ob → Prop) : Prop :=
  ∃ Iv : Nat → List (Key × D) → List Ob → Prop, Iv 0 [] m ∧ (∀ i acc m', Iv i acc m' → G m') ∧
    (∀ i d acc m', items[i]? = some d → Iv i acc m' → acc.length < sizeLine ∧ ∃ ds', app d (wipeD ds vs) = some ds' ∧ ∀ (B : Bs) (s : Shared) (H : Hp) (C : Addr) (cl : List (Str × Addr)) (fp : List Addr),
      WE (X.blk s H scope (compEnvC scope cl C X.env) fp) B ds' m' kx fun ky m3 => ∃ k : Key, ky = kD k ∧ ∀ (s : Shared) (H : Hp) (C : Addr) (cl : List (Str × Addr)) (fp : List Addr), WE (X.blk s H scope (compEnvC scope cl C X.env) fp) B ds' m3 vx fun y m4 => Iv (i + 1) (putD acc k y) m4) ∧
    (∀ acc m', Iv items.length acc m' → Q (.obj m'.length) (m' ++ [.dK acc]))
theorem we_dc (hc : X.calm = true) (hN : X.N.Nodup) (ok : BlkOk X.N X.env.scope scope own) (T : TgLc X scope (own.map (·.2)) tg g app) (h : WI X B ds ms tg iter fun items G m => DcWord X ds scope (own.map (·.2)) app kx vx items G m Q)
    (hs : ∀ x, foldedSetIterable iter X.env x = pure x := by intro _; rfl) : WE X B ds ms (.DictComp kx vx [⟨tg, iter, [], 0⟩] scope pos) Q :=
  WE.pe (pe_dc hc hN pi_can ok T.pg (tt := tYes) (tk := teB X scope kx) (tv := teB X scope vx) (fun s H C cl fp => pts_nil) (fun s H C cl fp => ⟨fun pins s' σ H Q I h => h s _ C cl fp pins s' I⟩) (fun s H C cl fp => ⟨fun pins s' σ H Q I h => h s _ C cl fp pins s' I⟩) hs) fun σ H θ S L => by
  intro pins s I
  refine thn (h σ H θ S L pins s I) fun v s1 h1 => thn h1 fun itv s2 h2 => ?_
  obtain ⟨it, fp, tn, J, H1, e1, I1, T0, t0, hfp, items, G, m, more, im, S1, ⟨Iv, i0, iG, step, done⟩, Gh, Y, W, wg, wy⟩ := h2
  refine ⟨it, fp, tn, J, H1, e1, I1, T0, t0, hfp, fun Dl hD => ?_⟩
  have hlen : (θ ++ more).length = m.length := S1.len
  have L1 := L.mono (Le.app θ more) im
  have bD : Dl ∈ B.T0 ∨ B.H0 Dl = none := by
    by_cases hT : Dl ∈ B.T0
    · exact .inl hT
    · right
      cases q : B.H0 Dl with
      | none => rfl
      | some o => have := S1.keep Dl o q hT; rw [hD] at this; cases this
  -- the loop, by the turn
  let Pv : Nat → Hp → Prop := fun i H' => ∃ acc ws ms' θ', H' Dl = some (.dK ws) ∧ RepKV X.K θ' H' acc ws ∧ Dl ∉ θ' ∧ ImmP H1 H' ∧ θ'.take (θ ++ more).length = θ ++ more ∧ Sat X.K B θ' ms' H' ∧ Iv i acc ms'
  have p0 : Pv 0 (upd H1 Dl (.dK [])) := ⟨[], [], m, θ ++ more, upd_same, rfl, S1.notIn hD, ImmP.new hD, List.take_length, S1.fresh hD, i0⟩
  have pG : ∀ i H', Pv i H' → Gh H' := fun i H' ⟨acc, ws, ms', θ', hw, rw', nD, im', t', S', q⟩ => wg θ' ms' H' im' t' S' (iG i acc ms' q)
  refine ⟨fun i n H' => n = items.length - i ∧ i ≤ items.length ∧ Pv i H', ⟨items.length, by simp, Nat.zero_le _, p0⟩, ?_⟩
  rintro i n H' ⟨rfl, hi, p⟩
  by_cases hlt : i < items.length
  · refine .inr ⟨W.goes i H' hlt (pG i H' p), Pv (i + 1), fun H2 p2 => ⟨items.length - (i + 1), by omega, rfl, hlt, p2⟩, fun x H2 y0 => ?_⟩
    have y := W.yields i H' x H2 hlt (pG i H' p) y0
    obtain ⟨acc, ws, ms', θ', hw, rw', nD, im', t', S', q⟩ := p
    obtain ⟨d, hd, sm2, S2, r2⟩ := wy i x H' H2 θ' ms' hlt im' t' S' (iG i acc ms' q) y
    have im2 : ImmP H' H2 := fun a o h _ => sm2 a o h
    obtain ⟨hz, ds', ea, body⟩ := step i d acc ms' hd q
    have L2' : Slr X.K θ' H2 ds σ := L1.mono (le_of_take t') (im'.trans im2)
    obtain ⟨σ2, hg, L3, hwp⟩ := T.go σ H2 θ' x d _ ds' ea r2 (L2'.wipe _)
    refine hg _ ⟨hwp, ?_⟩
    show teB X scope kx σ2 H2 _
    intro s3 H0 C cl fp3
    refine WE.bind (body ⟨H2, θ'⟩ s3 H0 C cl fp3) S2.here L3 fun ky m3 kv H3 more3 q3 r3 im3 S3 L4 => ?_
    obtain ⟨k, rfl, q3⟩ := q3
    intro s4 H0' C' cl' fp4
    refine WE.bind (q3 s4 H0' C' cl' fp4) S3 L4 fun yd m4 yv H4 more4 q4 r4 im4 S4 L5 => ?_
    have hw4 : H4 Dl = some (.dK ws) := S4.keep Dl _ (sm2 _ _ hw) nD
    have nD4 : Dl ∉ θ' ++ more3 ++ more4 := fun z => by
      rcases S4.new Dl z with q | q
      · exact nD q
      · have := sm2 _ _ hw
        rw [show H2 Dl = none from q] at this; cases this
    have SB : Sat X.K B (θ' ++ more3 ++ more4) m4 H4 := S2.rebase S4
    have imA : ImmP H1 H4 := ((im'.trans im2).trans im3).trans im4
    have rws : RepKV X.K (θ' ++ more3 ++ more4) H4 acc ws := RepKV.mono ((Le.app _ _).trans (Le.app _ _)) ((im2.trans im3).trans im4) _ _ rw'
    obtain ⟨S6, im6⟩ := SB.other (o := .dK (putK ws k yv)) nD4 bD hw4 rfl
    refine ⟨ws, k, rep_kD r3, hw4, by rw [rw'.length]; exact hz, putD acc k yd, putK ws k yv, m4, θ' ++ more3 ++ more4, upd_same, RepKV.mono (Le.refl _) im6 _ _ (rws.put k r4), nD4, imA.trans im6, ?_, S6, q4⟩
    rw [List.append_assoc, take_app (le_len t')]; exact t'
  · have e : i = items.length := by omega
    subst e
    refine .inl ⟨W.stops H' (pG _ H' p), ?_⟩
    obtain ⟨acc, ws, ms', θ', hw, rw', nD, im', t', S', q⟩ := p
    have e : θ' = θ ++ (more ++ θ'.drop (θ ++ more).length) := by
      rw [← List.append_assoc]
      conv => lhs; rw [← List.take_append_drop (θ ++ more).length θ', t']
    have S2 := S'.adopt (ob := .dK acc) nD bD ⟨ws, hw, RepKV.mono (Le.app _ _) (ImmP.refl _) _ _ rw'⟩
    refine ⟨.obj ms'.length, ms' ++ [.dK acc], more ++ θ'.drop (θ ++ more).length ++ [Dl], ?_, im.trans im', ?_, done acc ms' q⟩
    · rw [← List.append_assoc, ← e]
      exact mk_obj (by rw [← S'.len]; simp)
    · rw [← List.append_assoc, ← e]
      exact S2
/-- xs.index(y), texts -/
theorem wm_indexS {k : Nat} {xs : List Str} {y : Str} {j : Nat} (hk : ms[k]? = some (.lst (xs.map D.str))) (hj : xs[j]? = some y) (hno : ∀ (i : Nat) (z : Str), i < j → xs[i]? = some z → z ≠ y) (q : Q (.int (j : Nat)) ms) : WM X B ms "list.index" (.obj k) [.str y] Q := WM.of mt_index fun H θ x vs S r r0 => by
  obtain ⟨w, rfl, rw'⟩ := reps1 r0
  cases rep_str rw'
  obtain ⟨a, e, rfl⟩ := rep_obj r
  obtain ⟨ws, s, rs⟩ := S.obs k _ a hk e
  cases rs.strs
  refine ⟨a, xs.map V.str, .str y, j, .str y, rfl, rfl, SqL.of s, rfl, ?_, by rw [List.getElem?_map, hj]; rfl, ?_, fun i z hi hz => ?_, pv_same S mk_int q⟩
  · rw [List.all_map]; exact List.all_eq_true.mpr fun _ _ => rfl
  · show (y == y) = true
    exact beq_self_eq_true y
  · rw [List.getElem?_map] at hz
    obtain ⟨z', e1, e2⟩ := Option.map_eq_some_iff.mp hz
    subst e2
    show (z' == y) = false
    exact beq_eq_false_iff_ne.mpr (hno i z' hi e1)
end

/-! ## the end of a law -/
theorem callG {P : Program} {w : World} {K : PySem.W.Frag} {mg mb : Str → Option Value} {k : Nat} {fa a : Addr} {fd : FuncData} {x : Str} {sp : Sp} {s : Shared} {us : List Value} {ns : List Int}
    (hK : K.In s.heap) (hm : s.heap.Ns mainGlobals mg) (hB : s.heap.Ns builtinsNs mb) (hBb : ∀ x : Str, x ≠ "__name__" → mb x = bootBuiltins x)
    (hL : s.heap.NoLimit) (hG : s.gens = #[]) (ha : s.heap.get? a = some { cls := .type "list", data := .seq us.toArray })
    (hi : IntsAre us ns) (hz : ns.length ≤ sizeLine) (hr : Room k callerA)
    (F : ∀ base : Heap, K.In base → base.Ns mainGlobals mg → FnG P w K mg base k fa fd [x] sp)
    (hbd : ∀ (s : Shared) (u : Value), BindsTo s fd ⟨[u], []⟩ [(x, u)])
    (hsp : ∀ H : Hp, SqLi K H a (ns.map V.int) → sp [.ref a] H (fun v _ => v = .bl true) E0) :
    codeAny (model P w) callerA (.call (.ref fa) ⟨[.ref a], []⟩)
      (fun r s' => r = .ok (.ret (.bool true)) ∧ OldK s.heap s'.heap ∧ s'.os = s.os ∧ AllBare s'.gens) s := by
  have rel := vals_ints hi
  have hul : us.length = ns.length := hi.length
  -- run from an abstract heap that tracks at most the script
  have run : ∀ H : Hp, Only H → SqLi K H a (ns.map V.int) → HOk P w H s.heap → (∀ b, H b ≠ none → b = a) →
      (H a ≠ none → K.lookup a = none) →
      codeAny (model P w) callerA (.call (.ref fa) ⟨[.ref a], []⟩)
        (fun r s' => r = .ok (.ret (.bool true)) ∧ OldK s.heap s'.heap ∧ s'.os = s.os ∧ AllBare s'.gens) s := by
    intro H only hS ok one kno
    have inB : ∀ {b : Addr} {o : Obj}, s.heap.get? b = some o → H b = none → (hidT s.heap H).get? b = some o := fun e n => hidT_get e n
    have free : ∀ {b : Addr} {o : Obj}, s.heap.get? b = some o → (∃ es ep, o.data = .dict es ep) → H b = none := by
      intro b o e hd
      cases q : H b with
      | none => rfl
      | some u =>
        have eb := one b (by rw [q]; exact fun z => by cases z)
        subst eb
        rw [ha] at e
        cases e
        obtain ⟨es, ep, hd⟩ := hd
        cases hd
    have nsB : ∀ {b : Addr} {m : Str → Option Value}, s.heap.Ns b m → (hidT s.heap H).Ns b m := by
      rintro b m ⟨o, es, ep, e, d, r⟩
      exact ⟨o, es, ep, inB e (free e ⟨es, ep, d⟩), d, r⟩
    have kB : K.In (hidT s.heap H) := by
      intro b o e
      refine inB (hK b o e) ?_
      cases q : H b with
      | none => rfl
      | some u =>
        have eb := one b (by rw [q]; exact fun z => by cases z)
        subst eb
        rw [kno (by rw [q]; exact fun z => by cases z)] at e
        cases e
    have lim : (hidT s.heap H).NoLimit := by
      obtain ⟨mc, h1, h2⟩ := hL
      exact ⟨mc, nsB h1, h2⟩
    have md : Mod K mg (hidT s.heap H) := ⟨kB, nsB hm, ⟨mb, nsB hB, hBb⟩, lim⟩
    have e0 : Env0 P w K mg (hidT s.heap H) callerA [] s H :=
      { frames := rfl, mod := md, bs := fun b o e => of_hidT e, bsz := Nat.le_of_eq (hidT_size _ _), funs := trivial, frf := fun b hb => (by cases hb), hok := ok, bare := .of_eq hG }
    refine codeAny_mono ((F _ kB (nsB hm)).run callerA [] s H ⟨[.ref a], []⟩ [.ref a] [.ref a] _ hr rfl e0 (hbd s (.ref a)) (.cons rfl .nil) (hsp H hS)) fun r s' h => ?_
    match r, h with
    | .ok (.ret u), ⟨v, H', os, bare, un, ok', rv, q⟩ =>
      cases (show v = V.bl true from q)
      cases (show u = Value.bool true from rv)
      refine ⟨rfl, OldK.of_keep fun b o e => ?_, os, bare⟩
      rcases only b with z | ⟨ob, xs, z⟩
      · exact un.keep b o e z (by intro h; cases h) (by intro h; cases h)
      · obtain ⟨e1, _⟩ := ok b _ z
        obtain ⟨e2, _⟩ := ok' b _ (un.frzs b ob _ z)
        rw [e] at e1
        cases e1
        exact e2
  cases hk : K.lookup a with
  | some o =>
    have e := hK a o hk
    rw [ha] at e
    cases e
    exact run (fun _ => none) (fun _ => .inl rfl)
      (.inr ⟨_, us.toArray, _, hk, rfl, rfl, rfl, by rw [List.size_toArray, hul]; exact hz, by simpa using rel, rfl⟩)
      (fun b u z => by cases (show (none : Option HO) = some u from z)) (fun b z => absurd rfl z) (fun z => absurd rfl z)
  | none =>
    refine run (fun b => if b = a then some (.frz { cls := .type "list", data := .seq us.toArray } (.lst (ns.map V.int))) else none)
      (fun b => ?_) (.inl ⟨{ cls := .type "list", data := .seq us.toArray }, if_pos rfl⟩) (fun b u z => ?_) (fun b z => ?_) (fun _ => hk)
    · by_cases hb : b = a
      · exact .inr ⟨_, _, if_pos hb⟩
      · exact .inl (if_neg hb)
    · by_cases hb : b = a
      · have e := (if_pos hb).symm.trans z
        cases e
        subst hb
        exact ⟨ha, by rw [List.length_map]; exact hz, us, _, rel, ha⟩
      · have e := (if_neg hb).symm.trans z
        cases e
    · by_cases hb : b = a
      · exact hb
      · exact absurd (if_neg hb) z
theorem walkG {l : PySem.W.OpenLaw} {n k : Nat} {q : Program} {loose : List Str} {XP : (Str → Option Value) → Heap → Prop} {YP : World → Heap → Prop} {d : DefRec} {K : Params → PySem.W.Frag} {sp : World → Sp} {x : Str}
    (hn : l.most = some n) (hn2 : n ≤ sizeLine) (hdf : d.params.defaults = []) (hr : Room k callerA) (hY : ∀ (w : World) (h : Heap), YP w h → (K w.params).In h)
    (F : ∀ (w : World) (mg : Str → Option Value) (fa : Addr) (h : Heap), (K w.params).In h → h.Ns mainGlobals mg → mg d.name = some (.ref fa) →
      ∃ fd : FuncData, (∀ (s : Shared) (u : Value), BindsTo s fd ⟨[u], []⟩ [(x, u)]) ∧ ∀ base : Heap, (K w.params).In base → base.Ns mainGlobals mg → FnG l.prog w (K w.params) mg base k fa fd [x] (sp w))
    (hsp : ∀ (w : World) (H : Hp) (a : Addr) (ns : List Int), ns.length ≤ n → SqLi (K w.params) H a (ns.map V.int) → sp w [.ref a] H (fun v _ => v = .bl true) E0) :
    PySem.W.WalkO q loose XP YP l.row.toRowW d [] (fun f vs => PySem.call f vs) := by
  refine Att.attach_call hn hdf fun w s0 s1 mg mb fa o pm cd doc a vs ns G Y ho hd hcd hmg hobj hints hlen hg => ?_
  have kx := hY w _ Y
  obtain ⟨fd, hb, hF⟩ := F w mg fa _ kx G.T.g hmg
  exact callG kx G.T.g G.T.b G.T.builtins G.T.nolimit hg hobj hints (Nat.le_trans hlen hn2) hr hF hb fun H hS => hsp w H a ns hlen hS
/-- a law's promise: the script read only, True in the end -/
def lawV (n : Nat) : VSp := fun dl ms R => ∃ ns : List Int, ns.length ≤ n ∧ dl = [.rol (ns.map D.int)] ∧ ms = [] ∧ ∀ m, R (.bl true) m
theorem reps_ints {K : PySem.W.Frag} {θ : List Addr} {H : Hp} : ∀ (ns : List Int), Reps K θ H (ns.map D.int) (ns.map V.int)
  | [] => mk_nil
  | _ :: r => mk_cons mk_int (reps_ints r)
theorem lawV_sp {K : PySem.W.Frag} {H : Hp} {a : Addr} {ns : List Int} {n : Nat} (hl : ns.length ≤ n) (h : SqLi K H a (ns.map V.int)) : spOf K (lawV n) [.ref a] H (fun v _ => v = .bl true) E0 :=
  ⟨[.rol (ns.map D.int)], [], [], fun d _ => d = .bl true, mk_cons (by unfold Rep; exact ⟨a, _, rfl, h, reps_ints ns⟩) mk_nil,
    ⟨rfl, List.nodup_nil, fun k ob a h => by simp at h, fun b o e _ => e, fun a h => by cases h⟩, ⟨ns, hl, rfl, rfl, fun m => rfl⟩, fun d ms' hd v H' more r _ _ => by subst hd; exact rep_bl r⟩
end VL

namespace VL
open PySem PySem.Spec PyProof.Rows L2

theorem gL {α : Type} {l : List α} {a : α} : (l ++ [a])[l.length]? = some a := by simp
theorem gA {α : Type} {l r : List α} {k : Nat} {a : α} (h : l[k]? = some a) : (l ++ r)[k]? = some a := by rw [List.getElem?_append_left (List.getElem?_eq_some_iff.mp h).1]; exact h
theorem gM {α : Type} {l r : List α} {a : α} : (l ++ a :: r)[l.length]? = some a := by simp
theorem setM {α : Type} {l r : List α} {a b : α} : (l ++ a :: r).set l.length b = l ++ b :: r := by simp
/-! ## what a return keeps -/
section
variable {K : PySem.W.Frag} {X : Cx} {B : Bs} {θ : List Addr} {ms ml : List Ob} {H : Hp} {ι : List Nat} {ds : List (Option D)} {fl : Nat} {E : En}
theorem Fr.pick {d dd : D} (F : Fr ms [d] ι ml [dd]) (S : Sat K B θ ms H) {v : V} (r : Rep K θ H d v) : Rep K (sub θ ι) H dd v ∧ Sat K B (sub θ ι) ml H := by
  have S' := F.sat S
  have r' := F.reps S (mk_cons r mk_nil)
  obtain ⟨w, vs, e, rw', _⟩ := reps_cons r'
  cases e
  refine ⟨rw', ⟨S'.len, S'.nd, S'.obs, S.keep, fun a ha => ?_⟩⟩
  obtain ⟨j, hj, e⟩ := List.getElem_of_mem ha
  obtain ⟨k, _, q⟩ := sub_get (F.bound S) (by rw [List.getElem?_eq_getElem hj, e] : (sub θ ι)[j]? = some a)
  exact S.new a (List.mem_of_getElem? q)
/-- what is handed back: a part of the store, in an order of its own -/
theorem wss_ret {st : List Stmt} (R : D → List Ob → Prop) (q : ∀ d m, R d m → ∃ ι ml dd, Fr m [d] ι ml [dd] ∧ (∀ j, j < fl → ι[j]? = some j) ∧ E.rt dd ml) (h : WSs X B fl ds ms st { E with rt := R }) : WSs X B fl ds ms st E := .mk fun σ H θ hf S L =>
  (h σ H θ hf S L).imp (fun _ _ z => z) (fun v H' z => by
    obtain ⟨d, m, θ', r, im, t, S', hq⟩ := z
    obtain ⟨ι, ml, dd, F, hj, qe⟩ := q d m hq
    obtain ⟨r2, S2⟩ := F.pick S' r
    refine ⟨dd, ml, sub θ' ι, r2, im, ?_, S2, qe⟩
    rw [← t]
    apply List.ext_getElem?
    intro i
    by_cases hi : i < fl
    · rw [List.getElem?_take_of_lt hi, List.getElem?_take_of_lt hi]
      unfold sub
      rw [List.getElem?_map, hj i hi]
      have hl : i < θ'.length := F.bound S' i (List.mem_of_getElem? (hj i hi))
      show some (θ'.getD i 0) = _
      rw [List.getD_eq_getElem?_getD, List.getElem?_eq_getElem hl]
      rfl
    · rw [List.getElem?_take_eq_none (by omega), List.getElem?_take_eq_none (by omega)]) (fun _ _ z => z) (fun _ _ z => z)
theorem Fr.noneI {ms : List Ob} {d : D} (h : d.im = true) : Fr ms [d] [] [] [d] := Fr.none (by simp [imAll, h])
end

/-! ## values in, a value out -/
def pureV (p : List D → D → Prop) : VSp := fun dl ms R => ms = [] ∧ ∃ v, p dl v ∧ R v []
/-- a def with its name -/
structure Dc (P : Program) (w : World) (K : PySem.W.Frag) (mg : Str → Option Value) (base : Heap) (k : Nat) (x : Str) (ps : List Str) (φ : VSp) : Prop where
  ex : ∃ (f : Addr) (fd : FuncData), FnG P w K mg base k f fd ps (spOf K φ) ∧ mg x = some (.ref f) ∧ PySem.W.keepIn K (.ref f) = true ∧ Binds K fd ps []
theorem Dc.up {P : Program} {w : World} {K : PySem.W.Frag} {mg : Str → Option Value} {base : Heap} {j k : Nat} {x : Str} {ps : List Str} {φ : VSp} (d : Dc P w K mg base j x ps φ) (h : j ≤ k) : Dc P w K mg base k x ps φ := by
  obtain ⟨f, fd, G, a, b, c⟩ := d.ex
  exact ⟨f, fd, G.up h, a, b, c⟩
section
variable {P : Program} {w : World} {K : PySem.W.Frag} {mg : Str → Option Value} {base : Heap}
theorem vfnP {x qual : Str} {st : Stmt} {f : Addr} {fd : FuncData} {N ps : List Str} {k : Nat} {p : List D → D → Prop} (F : Fun K x qual st f fd) (S : FnScope N ps (defScope st)) (len : ∀ dl v, p dl v → dl.length = ps.length) (im : ∀ dl v, p dl v → v.im = true)
    (body : ∀ (cdv : Value) (A : Around) (outer : List Env) (s : Shared) (H : Hp), Room k (A.deeper (envOfC qual (defScope st) s.heap.objs.size f cdv)) → (A.deeper (envOfC qual (defScope st) s.heap.objs.size f cdv)).guards = some [] → ∀ (B : Bs) (dl : List D) (v : D), p dl v →
      WSs (cxOf CX0 P w K mg base N qual (defScope st) f cdv A outer s H E0).nox B 0 (startD N.length dl) [] (defBody st) ⟨fun _ _ => v = .non, fun d _ => d = v, fun _ _ => False, fun _ _ => False⟩) : FnG P w K mg base (k + 1) f fd ps (spOf K (pureV p)) := by
  refine vfn F S (fun dl ms R h => ?_) (fun cdv A outer s H hr hgd B dl ms R h => ?_)
  · obtain ⟨_, v, h, _⟩ := h
    exact len dl v h
  · obtain ⟨rfl, v, h, q⟩ := h
    have hv := im dl v h
    have hb := body cdv A outer s H hr hgd B dl v h
    refine .mk fun σ H1 θ hf S L => (hb σ H1 θ hf S L).imp (fun σ' H' z => ?_) (fun v' H' z => ?_) (fun _ _ z => z) (fun _ _ z => z)
    · obtain ⟨ds', m, θ', L', im', t, S', rfl⟩ := z
      obtain ⟨r2, S2⟩ := (Fr.noneI (ms := m) hv).pick S' mk_non
      exact ⟨ds'.map fun _ => none, [], sub θ' [], ⟨by rw [List.length_map]; exact L'.len, fun i d e => by rw [List.getElem?_map] at e; obtain ⟨_, _, q⟩ := Option.map_eq_some_iff.mp e; cases q⟩, im', by simp, S2, q⟩
    · obtain ⟨d, m, θ', r, im', t, S', rfl⟩ := z
      obtain ⟨r2, S2⟩ := (Fr.noneI (ms := m) hv).pick S' r
      exact ⟨d, [], sub θ' [], r2, im', by simp, S2, q⟩
theorem dc_mk {x : Str} {st : Stmt} {f : Addr} {fd : FuncData} {ps : List Str} {k : Nat} {φ : VSp} (F : Fun K x x st f fd) (G : FnG P w K mg base k f fd ps (spOf K φ)) (hm : mg x = some (.ref f))
    (h : ∀ (kV doc pm : Value) (an : Option Addr) (cdv ct : Value) (us : List Value), us.length = ps.length → bindArgs (PySem.W.fnOf x x (defArgs st) (defBody st) (defScope st) .none kV doc pm an cdv ct) ⟨us, []⟩ = pure (ps.zip us)) : Dc P w K mg base k x ps φ :=
  ⟨f, fd, G, hm, F.kp, F.binds h⟩
end
section
variable {X : Cx} {B : Bs} {ds : List (Option D)} {ms : List Ob} {Q : D → List Ob → Prop} {pos : Pos} {φ : VSp} {p : List D → D → Prop} {k : Nat} {x : Str} {ps : List Str}
theorem we_callD {xp : Pos} {e : Expr} {es : List Expr} (G : Dc X.prog X.w X.K X.mg X.base k x ps φ) (hr : Room k X.A) (hgd : X.A.guards = some []) (hg : Gl X x)
    (h : WA X B ds ms (e :: es) fun dl m => CallF φ dl m Q) (hdb : (x == ("__debug__" : Str)) = false := by decide) (he : starEach (e :: es) X.env = (false, eval e X.env) :: starEach es X.env := by rfl) (hpl : (backTo pos (starEach es X.env)).any (·.1) = false := by rfl) :
    WE X B ds ms (.Call (.Name x xp) (e :: es) [] pos) Q := by
  obtain ⟨f, fd, G, a, b, c⟩ := G.ex
  exact we_call G hr hgd a b c hg h hdb he hpl
theorem callF_P {dl : List D} (hi : imAll dl = true) {v : D} (hp : p dl v) (hv : v.im = true) (q : Q v ms) : CallF (pureV p) dl ms Q :=
  callF_pure hi ⟨rfl, v, hp, rfl, hv, q⟩ fun R R' hR ⟨a, v, b, c⟩ => ⟨a, v, b, hR _ _ c⟩
theorem WA.imp {es : List Expr} {Q Q' : List D → List Ob → Prop} (h : WA X B ds ms es Q') (q : ∀ d m, Q' d m → Q d m) : WA X B ds ms es Q := .mk fun σ H θ S L => (h σ H θ S L).mono fun v H' ⟨dl, m, more, a, b, c, z⟩ => ⟨dl, m, more, a, b, c, q dl m z⟩
/-- the call of a def, values in, a value out -/
theorem we_callP {xp : Pos} {e : Expr} {es : List Expr} (G : Dc X.prog X.w X.K X.mg X.base k x ps (pureV p)) (hr : Room k X.A) (hgd : X.A.guards = some []) (hg : Gl X x)
    (h : WA X B ds ms (e :: es) fun dl m => imAll dl = true ∧ ∃ v, p dl v ∧ v.im = true ∧ Q v m) (hdb : (x == ("__debug__" : Str)) = false := by decide) (he : starEach (e :: es) X.env = (false, eval e X.env) :: starEach es X.env := by rfl) (hpl : (backTo pos (starEach es X.env)).any (·.1) = false := by rfl) :
    WE X B ds ms (.Call (.Name x xp) (e :: es) [] pos) Q :=
  we_callD G hr hgd hg (WA.imp h fun d m ⟨a, v, b, c, q⟩ => callF_P a b c q) hdb he hpl
end
theorem imAll_iff {ds : List D} : imAll ds = true ↔ ∀ d ∈ ds, d.im = true := by
  induction ds with
  | nil => simp [imAll]
  | cons d ds ih => simp [imAll, ih]
theorem im_ints (ns : List Int) : imAll (ns.map D.int) = true := imAll_iff.mpr fun d hd => by
  obtain ⟨i, _, rfl⟩ := List.mem_map.mp hd; rfl
theorem im_strs (ns : List Str) : imAll (ns.map D.str) = true := imAll_iff.mpr fun d hd => by
  obtain ⟨i, _, rfl⟩ := List.mem_map.mp hd; rfl

mutual
theorem im_cl {n : Nat} : ∀ {d : D}, d.im = true → d.cl n = true
  | .non, _ => rfl
  | .bl _, _ => rfl
  | .int _, _ => rfl
  | .str _, _ => rfl
  | .ref _, _ => rfl
  | .ty _, _ => rfl
  | .obj _, h => by simp [D.im] at h
  | .tup ds, h => by unfold D.cl; exact im_clA (by simpa [D.im] using h)
  | .rol ds, h => by unfold D.cl; exact im_clA (by simpa [D.im] using h)
  | .rod _ ds, h => by unfold D.cl; exact im_clA (by simpa [D.im] using h)
theorem im_clA {n : Nat} : ∀ {ds : List D}, imAll ds = true → clAll n ds = true
  | [], _ => rfl
  | d :: ds, h => by
    have h' : d.im = true ∧ imAll ds = true := by simpa [imAll] using h
    unfold clAll; rw [im_cl h'.1, im_clA h'.2]; rfl
end
/-! ## comprehensions that only tell values -/
/-- [f x for x in xs]: nothing of the store is looked at or changed but what stays -/
theorem lc_map {α : Type} {X : Cx} {ds : List (Option D)} {scope : Scope} {vs : List Nat} {app : D → List (Option D) → Option (List (Option D))} {elt : Expr} {G : List Ob → Prop} {m : List Ob} {Q : D → List Ob → Prop} (xs : List α) (e : α → D) (f : α → D)
    (hz : xs.length ≤ sizeLine) (hG : G m)
    (step : ∀ a ∈ xs, ∃ ds', app (e a) (wipeD ds vs) = some ds' ∧ ∀ (B : Bs) (s : Shared) (H : Hp) (C : Addr) (cl : List (Str × Addr)) (fp : List Addr), WE (X.blk s H scope (compEnvC scope cl C X.env) fp) B ds' m elt fun y m4 => y = f a ∧ m4 = m)
    (q : Q (.obj m.length) (m ++ [.lst (xs.map f)])) : LcWord X ds scope vs app [] elt (xs.map e) G m Q := by
  refine ⟨fun i acc m' => acc = (xs.take i).map f ∧ m' = m, ⟨rfl, rfl⟩, fun i acc m' ⟨_, h⟩ => h ▸ hG, fun i d acc m' hi ⟨ha, hm'⟩ => ?_, fun acc m' ⟨ha, hm'⟩ _ => ?_⟩
  · subst hm'
    rw [List.getElem?_map] at hi
    obtain ⟨a, ea, rfl⟩ := Option.map_eq_some_iff.mp hi
    have hlt : i < xs.length := (List.getElem?_eq_some_iff.mp ea).1
    have hmem : a ∈ xs := List.mem_of_getElem? ea
    obtain ⟨ds', h1, h2⟩ := step a hmem
    refine ⟨by rw [ha, List.length_map, List.length_take]; omega, ds', h1, fun B s H C cl fp => ⟨fun _ s H C cl fp => ?_, fun h => by cases h⟩⟩
    refine we_imp (h2 B s H C cl fp) fun y m4 ⟨hy, ht⟩ => .inl ⟨?_, ht⟩
    rw [hy, ha, List.take_succ, ea, List.map_append]; rfl
  · subst hm'
    rw [ha, List.length_map, List.take_length]
    exact q
/-- a class with its name; a method of a class -/
def MkC (P : Program) (w : World) (K : PySem.W.Frag) (mg : Str → Option Value) (base : Heap) (k : Nat) (x : Str) (C : Addr) (ps : List Str) (φ : VSp) : Prop :=
  ∃ (f : Addr) (fd : FuncData), FnG P w K mg base k f fd ps (spOf K φ) ∧ mg x = some (.ref C) ∧ Mk K C f ∧ Binds K fd ps []
def MtC (P : Program) (w : World) (K : PySem.W.Frag) (mg : Str → Option Value) (base : Heap) (k : Nat) (C : Addr) (m : Str) (ps : List Str) (φ : VSp) : Prop :=
  ∃ (f : Addr) (fd : FuncData), FnG P w K mg base k f fd ps (spOf K φ) ∧ Meth K C m f ∧ Binds K fd ps []
section
variable {X : Cx} {B : Bs} {ds : List (Option D)} {ms : List Ob} {Q : D → List Ob → Prop} {pos : Pos} {φ : VSp} {k : Nat} {x : Str} {ps : List Str} {C : Addr}
theorem we_makeD {xp : Pos} {e : Expr} {es : List Expr} {cn : Str} (hcn : ClsN X.K cn C) (M : MkC X.prog X.w X.K X.mg X.base k x C ps φ) (hr : Room (k + 1) X.A) (hgd : X.A.guards = some []) (hg : Gl X x)
    (h : WA X B ds ms (e :: es) fun dl m => CallF φ (.obj m.length :: dl) (m ++ [.ins cn []]) fun d m' => d = .non ∧ Q (.obj m.length) m')
    (hdb : (x == ("__debug__" : Str)) = false := by decide) (he : starEach (e :: es) X.env = (false, eval e X.env) :: starEach es X.env := by rfl) (hpl : (backTo pos (starEach es X.env)).any (·.1) = false := by rfl) :
    WE X B ds ms (.Call (.Name x xp) (e :: es) [] pos) Q := by
  obtain ⟨f, fd, G, hm, M, hb⟩ := M
  exact we_make hcn M G hr hgd hm hb hg h hdb he hpl
theorem we_methD {o : Expr} {m : Str} {apos : Pos} {e : Expr} {es : List Expr} {pl : Sem Bool} {cn : Str} (hcn : ClsN X.K cn C) (c : Cls X.K C) (M : MtC X.prog X.w X.K X.mg X.base k C m ps φ) (hr : Room k X.A) (hgd : X.A.guards = some [])
    (h : WE X B ds ms o fun d m1 => ∃ j fs, d = .obj j ∧ m1[j]? = some (.ins cn fs) ∧ fs.lookup m = none ∧ WA X B ds m1 (e :: es) fun dl m2 => CallF φ (d :: dl) m2 Q)
    (hst : starEach (e :: es) X.env = (false, eval e X.env) :: starEach es X.env := by rfl) (hpl : (backTo pos (starEach es X.env)).any (·.1) = false := by rfl)
    (ht : eval (.Call (.Attribute o m apos) (e :: es) [] pos) X.env = (do
      let ov ← eval o X.env
      standAt apos.atName
      let (f, first) ← holding [ov] (getMethod ov m pl)
      callWith pos f first (backTo pos (starEach (e :: es) X.env)) (backToKw pos (keywordEach [] X.env))) := by rfl) :
    WE X B ds ms (.Call (.Attribute o m apos) (e :: es) [] pos) Q := by
  obtain ⟨f, fd, G, hm, hb⟩ := M
  exact we_meth hcn c hm G hr hgd hb h hst hpl ht
theorem we_methD0 {o : Expr} {m : Str} {apos : Pos} {pl : Sem Bool} {cn : Str} (hcn : ClsN X.K cn C) (c : Cls X.K C) (M : MtC X.prog X.w X.K X.mg X.base k C m ps φ) (hr : Room k X.A) (hgd : X.A.guards = some [])
    (h : WE X B ds ms o fun d m1 => ∃ j fs, d = .obj j ∧ m1[j]? = some (.ins cn fs) ∧ fs.lookup m = none ∧ CallF φ [d] m1 Q)
    (ht : eval (.Call (.Attribute o m apos) [] [] pos) X.env = (do
      let ov ← eval o X.env
      standAt apos.atName
      let (f, first) ← holding [ov] (getMethod ov m pl)
      callWith pos f first (backTo pos (starEach [] X.env)) (backToKw pos (keywordEach [] X.env))) := by rfl) :
    WE X B ds ms (.Call (.Attribute o m apos) [] [] pos) Q := by
  obtain ⟨f, fd, G, hm, hb⟩ := M
  exact we_meth0 hcn c hm G hr hgd hb h ht
end
/-! ## a new list of values -/
def listV (p : List D → List D → Prop) : VSp := fun dl ms R => ms = [] ∧ ∃ items, p dl items ∧ R (.obj 0) [.lst items]
theorem Fr.oneL {m : List Ob} {k : Nat} {items : List D} (hi : imAll items = true) (h : m[k]? = some (.lst items)) : Fr m [.obj k] [k] [.lst items] [.obj 0] where
  nd := by simp
  len := rfl
  at_ := fun j i e => by
    match j, e with
    | 0, e => cases e; exact ⟨.lst items, rfl, by rw [h]; show _ = some (Ob.lst (renAll _ items)); rw [renAll_im _ _ hi]⟩
    | j + 1, e => simp at e
  args := rfl
section
variable {P : Program} {w : World} {K : PySem.W.Frag} {mg : Str → Option Value} {base : Heap}
theorem vfnL {x qual : Str} {st : Stmt} {f : Addr} {fd : FuncData} {N ps : List Str} {k : Nat} {p : List D → List D → Prop} (F : Fun K x qual st f fd) (S : FnScope N ps (defScope st)) (len : ∀ dl v, p dl v → dl.length = ps.length) (im : ∀ dl v, p dl v → imAll v = true)
    (body : ∀ (cdv : Value) (A : Around) (outer : List Env) (s : Shared) (H : Hp), Room k (A.deeper (envOfC qual (defScope st) s.heap.objs.size f cdv)) → (A.deeper (envOfC qual (defScope st) s.heap.objs.size f cdv)).guards = some [] → ∀ (B : Bs) (dl : List D) (v : List D), p dl v →
      WSs (cxOf CX0 P w K mg base N qual (defScope st) f cdv A outer s H E0).nox B 0 (startD N.length dl) [] (defBody st) ⟨fun _ _ => False, fun d m => ∃ k, d = .obj k ∧ m[k]? = some (.lst v), fun _ _ => False, fun _ _ => False⟩) : FnG P w K mg base (k + 1) f fd ps (spOf K (listV p)) := by
  refine vfn F S (fun dl ms R h => ?_) (fun cdv A outer s H hr hgd B dl ms R h => ?_)
  · obtain ⟨_, v, h, _⟩ := h
    exact len dl v h
  · obtain ⟨rfl, v, h, q⟩ := h
    refine wss_ret (fun d m => ∃ k, d = .obj k ∧ m[k]? = some (.lst v)) (fun d m ⟨k, e, hk⟩ => ?_) ?_
    · subst e
      exact ⟨[k], _, _, Fr.oneL (im dl v h) hk, fun j (hj : j < 0) => absurd hj (Nat.not_lt_zero j), q⟩
    · exact .mk fun σ H1 θ hf S L => (body cdv A outer s H hr hgd B dl v h σ H1 θ hf S L).imp (fun _ _ z => by obtain ⟨_, _, _, _, _, _, _, z⟩ := z; exact z.elim) (fun _ _ z => z) (fun _ _ z => z) (fun _ _ z => z)
theorem Dc.of {x : Str} {ps : List Str} {k : Nat} {φ φ' : VSp} (d : Dc P w K mg base k x ps φ) (h : ∀ dl ms R, φ' dl ms R → φ dl ms R) : Dc P w K mg base k x ps φ' := by
  obtain ⟨f, fd, G, a, b, c⟩ := d.ex
  have up : ∀ {vs : List V} {H : Hp} {Q : VK} {E : XK}, spOf K φ' vs H Q E → spOf K φ vs H Q E := fun ⟨dl, ms, θ, R, r, S, p, f⟩ => ⟨dl, ms, θ, R, r, S, h _ _ _ p, f⟩
  exact ⟨f, fd, ⟨fun vs H Q z => G.len vs H Q (up z), fun A outer s H args us vs Q h1 h2 h3 h4 h5 h6 => G.run A outer s H args us vs Q h1 h2 h3 h4 h5 (up h6)⟩, a, b, c⟩
end
section
variable {X : Cx} {B : Bs} {ds : List (Option D)} {ms : List Ob} {Q : D → List Ob → Prop} {pos : Pos} {p : List D → List D → Prop} {k : Nat} {x : Str} {ps : List Str}
theorem we_callL {xp : Pos} {e : Expr} {es : List Expr} (G : Dc X.prog X.w X.K X.mg X.base k x ps (listV p)) (hr : Room k X.A) (hgd : X.A.guards = some []) (hg : Gl X x)
    (h : WA X B ds ms (e :: es) fun dl m => imAll dl = true ∧ ∃ v, p dl v ∧ imAll v = true ∧ Q (.obj m.length) (m ++ [.lst v])) (hdb : (x == ("__debug__" : Str)) = false := by decide) (he : starEach (e :: es) X.env = (false, eval e X.env) :: starEach es X.env := by rfl) (hpl : (backTo pos (starEach es X.env)).any (·.1) = false := by rfl) :
    WE X B ds ms (.Call (.Name x xp) (e :: es) [] pos) Q :=
  we_callD G hr hgd hg (WA.imp h fun d m ⟨a, v, b, c, q⟩ => ⟨[], [], d, Fr.none a, rfl, v, b, fun _ => by
    show Q (.obj (m.length + (0 - 0))) (m ++ [Ob.lst (renAll _ v)])
    rw [renAll_im _ _ c]; exact q⟩) hdb he hpl
end
theorem lc_mapE {α : Type} {X : Cx} {ds : List (Option D)} {scope : Scope} {vs : List Nat} {app : D → List (Option D) → Option (List (Option D))} {elt : Expr} {G : List Ob → Prop} {m : List Ob} {Q : D → List Ob → Prop} {items : List D} (xs : List α) (e : α → D) (f : α → D) (hi : items = xs.map e)
    (hz : xs.length ≤ sizeLine) (hG : G m)
    (step : ∀ a ∈ xs, ∃ ds', app (e a) (wipeD ds vs) = some ds' ∧ ∀ (B : Bs) (s : Shared) (H : Hp) (C : Addr) (cl : List (Str × Addr)) (fp : List Addr), WE (X.blk s H scope (compEnvC scope cl C X.env) fp) B ds' m elt fun y m4 => y = f a ∧ m4 = m)
    (q : Q (.obj m.length) (m ++ [.lst (xs.map f)])) : LcWord X ds scope vs app [] elt items G m Q := by
  subst hi; exact lc_map xs e f hz hG step q
/-- {k x: v x for x in xs}, no key twice -/
theorem dc_map {α : Type} {X : Cx} {ds : List (Option D)} {scope : Scope} {vs : List Nat} {app : D → List (Option D) → Option (List (Option D))} {kx vx : Expr} {G : List Ob → Prop} {m : List Ob} {Q : D → List Ob → Prop} {items : List D} (xs : List α) (e : α → D) (kf : α → Key) (vf : α → D) (hi : items = xs.map e)
    (hz : xs.length ≤ sizeLine) (nd : (xs.map kf).Nodup) (hG : G m)
    (step : ∀ a ∈ xs, ∃ ds', app (e a) (wipeD ds vs) = some ds' ∧ ∀ (B : Bs) (s : Shared) (H : Hp) (C : Addr) (cl : List (Str × Addr)) (fp : List Addr), WE (X.blk s H scope (compEnvC scope cl C X.env) fp) B ds' m kx fun y m4 => y = kD (kf a) ∧ m4 = m ∧
      ∀ (s : Shared) (H : Hp) (C : Addr) (cl : List (Str × Addr)) (fp : List Addr), WE (X.blk s H scope (compEnvC scope cl C X.env) fp) B ds' m vx fun z m5 => z = vf a ∧ m5 = m)
    (q : Q (.obj m.length) (m ++ [.dK (xs.map fun a => (kf a, vf a))])) : DcWord X ds scope vs app kx vx items G m Q := by
  subst hi
  refine ⟨fun i acc m' => acc = (xs.take i).map (fun a => (kf a, vf a)) ∧ m' = m, ⟨rfl, rfl⟩, fun i acc m' ⟨_, h⟩ => h ▸ hG, fun i d acc m' hi ⟨ha, hm'⟩ => ?_, fun acc m' ⟨ha, hm'⟩ => ?_⟩
  · subst hm'
    rw [List.getElem?_map] at hi
    obtain ⟨a, ea, rfl⟩ := Option.map_eq_some_iff.mp hi
    have hlt : i < xs.length := (List.getElem?_eq_some_iff.mp ea).1
    have hmem : a ∈ xs := List.mem_of_getElem? ea
    obtain ⟨ds', h1, h2⟩ := step a hmem
    refine ⟨by rw [ha, List.length_map, List.length_take]; omega, ds', h1, fun B s H C cl fp => we_imp (h2 B s H C cl fp) fun y m4 ⟨hy, ht, h3⟩ => ⟨kf a, hy, fun s H C cl fp => ?_⟩⟩
    subst ht
    refine we_imp (h3 s H C cl fp) fun z m5 ⟨hz', ht'⟩ => ⟨?_, ht'⟩
    have hno : (acc.any fun kv => decide (kv.1 = kf a)) = false := by
      rw [ha]
      refine Bool.eq_false_iff.mpr fun hh => ?_
      obtain ⟨kv, hkv, e⟩ := List.any_eq_true.mp hh
      obtain ⟨b, hb, rfl⟩ := List.mem_map.mp hkv
      obtain ⟨j, hj, e2⟩ := List.getElem_of_mem hb
      have hj' : j < i := by rw [List.length_take] at hj; omega
      rw [List.getElem_take] at e2
      have e3 : kf b = kf a := of_decide_eq_true e
      have l1 : j < (xs.map kf).length := by rw [List.length_map]; omega
      have l2 : i < (xs.map kf).length := by rw [List.length_map]; omega
      have : (xs.map kf)[j] = (xs.map kf)[i] := by
        rw [List.getElem_map, List.getElem_map, e2, e3]
        exact congrArg kf (Option.some.inj (ea.symm.trans (List.getElem?_eq_getElem hlt)))
      have := (List.getElem_inj nd).mp this
      omega
    unfold putD
    rw [hno, if_neg (by decide), ha, hz', List.take_succ, ea, List.map_append]; rfl
  · subst hm'
    rw [ha, List.length_map, List.take_length]
    exact q
theorem putFD_lt {f : Str} {v : D} : ∀ {fs : List (Str × D)} {n : Nat}, fs.length < n → (putFD f v fs).length < n + 1
  | [], n, h => by show 1 < n + 1; have : 0 < n := h; omega
  | (g, u) :: r, n, h => by
    unfold putFD
    by_cases e : g = f
    · rw [if_pos e]; exact Nat.lt_succ_of_lt h
    · rw [if_neg e, List.length_cons]
      have := putFD_lt (f := f) (v := v) (fs := r) (n := n - 1) (by rw [List.length_cons] at h; omega)
      have h0 : 0 < n := by rw [List.length_cons] at h; omega
      omega
theorem enumD_map {α : Type} (l : List α) (f : α → D) : enumD (l.map f) = l.zipIdx.map fun p => .tup [.int (p.2 : Nat), f p.1] := by
  apply List.ext_getElem?
  intro i
  unfold enumD
  rw [List.getElem?_zipWith, List.getElem?_map, List.getElem?_map, List.getElem?_zipIdx]
  cases e : l[i]? with
  | none => cases e2 : (List.range (l.map f).length)[i]? <;> rfl
  | some x =>
    have hi : i < l.length := (List.getElem?_eq_some_iff.mp e).1
    rw [List.getElem?_range (by rw [List.length_map]; exact hi)]
    simp
section
variable {X : Cx} {B : Bs} {ms : List Ob} {Q : D → List Ob → Prop} {a b : Expr}
theorem wx_DS {k : Nat} {kvs : List (Key × D)} {x : Str} {d : D} (hu : X.A.units + 1 < cLine) (hk : ms[k]? = some (.dK kvs)) (h : valD kvs (.inr x) = some d) (q : Q d ms) : WX X B ms a b (.obj k) (.str x) Q := wx_D (y := .inr x) hu hk h q
theorem wx_DI {k : Nat} {kvs : List (Key × D)} {x : Int} {d : D} (hu : X.A.units + 1 < cLine) (hk : ms[k]? = some (.dK kvs)) (h : valD kvs (.inl x) = some d) (q : Q d ms) : WX X B ms a b (.obj k) (.int x) Q := wx_D (y := .inl x) hu hk h q
end
/-! ## a new instance's __init__ -/
theorem fr_one (n j : Nat) : fr [n] (n + 1) j = n + j := by
  unfold fr
  by_cases h : j < [n].length
  · have : j = 0 := by simpa using h
    subst this; rw [dif_pos (show 0 < [n].length from Nat.zero_lt_one)]; rfl
  · rw [dif_neg h]
    have : ¬ j = 0 := by simpa using h
    show n + 1 + (j - 1) = n + j
    omega
theorem callF_init {φ : VSp} {m : List Ob} {C : Str} {dl : List D} {Q : D → List Ob → Prop} (hi : imAll dl = true)
    (h : φ (.obj 0 :: dl) [.ins C []] fun d ml' => 1 ≤ ml'.length → Q (d.ren (m.length + ·)) (m ++ ml'.map (Ob.ren (m.length + ·)))) : CallF φ (.obj m.length :: dl) (m ++ [.ins C []]) Q := by
  have hf : fr [m.length] (m ++ [Ob.ins C []]).length = (m.length + ·) := by
    funext j
    rw [List.length_append]
    exact fr_one _ _
  refine ⟨[m.length], [.ins C []], .obj 0 :: dl, ⟨by simp, rfl, fun j k e => ?_, ?_⟩, ?_⟩
  · match j, e with
    | 0, e => cases e; exact ⟨_, rfl, by simp [Ob.ren, renKV]⟩
    | j + 1, e => simp at e
  · unfold renAll
    rw [renAll_im _ _ hi, hf]
    rfl
  · have e : (fun d ml' => [m.length].length ≤ ml'.length → Q (D.ren (fr [m.length] (m ++ [Ob.ins C []]).length) d) (over (fr [m.length] (m ++ [Ob.ins C []]).length) [m.length] (m ++ [Ob.ins C []]) ml')) =
        fun d ml' => 1 ≤ ml'.length → Q (D.ren (m.length + ·) d) (m ++ ml'.map (Ob.ren (m.length + ·))) := by
      funext d ml'
      rw [hf]
      apply propext
      have : 1 ≤ ml'.length → over (m.length + ·) [m.length] (m ++ [Ob.ins C []]) ml' = m ++ ml'.map (Ob.ren (m.length + ·)) := fun hl => by
        cases ml' with
        | nil => simp at hl
        | cons ob r =>
          unfold over
          unfold over
          rw [List.set_append_right _ _ (Nat.le_refl _), Nat.sub_self]
          simp
      exact ⟨fun z hl => this hl ▸ z hl, fun z hl => (this hl).symm ▸ z hl⟩
    rw [e]; exact h
end VL

namespace VL
open PySem PySem.Spec PyProof.Rows L2

/-! ## texts by their signs -/
def mkS (l : List Nat) : Str := ⟨l.toArray⟩
abbrev dS (l : List Nat) : D := .str (mkS l)
theorem mkS_inj {a b : List Nat} (h : mkS a = mkS b) : a = b := by
  have := congrArg (fun s : Str => s.cps.toList) h
  simpa [mkS] using this
theorem mkS_eq {a b : List Nat} : mkS a = mkS b ↔ a = b := ⟨mkS_inj, fun h => h ▸ rfl⟩
theorem mkS_of (s : Str) : mkS s.cps.toList = s := by cases s; simp [mkS]
theorem mkS_app (a b : List Nat) : mkS a ++ mkS b = mkS (a ++ b) := by
  show Str.mk (a.toArray ++ b.toArray) = Str.mk (a ++ b).toArray
  simp
theorem mkS_len (a : List Nat) : (mkS a).length = a.length := by simp [mkS, Str.length]
theorem mkS_one (c : Nat) : (⟨#[c]⟩ : Str) = mkS [c] := rfl
theorem mkS_cps (a : List Nat) : (mkS a).cps.toList = a := by simp [mkS]
theorem mkS_items (a : List Nat) : ((mkS a).cps.toList.map fun c => D.str ⟨#[c]⟩) = a.map fun c => dS [c] := by rw [mkS_cps]; rfl
def cutN {α : Type} (l : List α) (lo hi : Option Int) : List α := (l.drop (HT.sIx l.length 0 lo)).take (HT.sIx l.length l.length hi - HT.sIx l.length 0 lo)
theorem mkS_cut (l : List Nat) (lo hi : Option Int) : cutS (mkS l) lo hi = mkS (cutN l lo hi) := by
  unfold cutS cutN mkS
  simp [Str.length]
theorem mkS_ljust (l : List Nat) (n : Nat) (c : Nat) : Txt.ljustF (mkS l) (n : Int) c = mkS (l ++ List.replicate (n - l.length) c) := by
  unfold Txt.ljustF
  rw [mkS_len]
  by_cases h : (n : Int) ≤ l.length
  · rw [if_pos h, show n - l.length = 0 by omega]; simp
  · rw [if_neg h]
    unfold PySem.Builtin.Str.padded mkS
    simp
theorem mkS_mul (l : List Nat) (n : Nat) : Txt.mul (mkS l) (n : Int) = mkS (List.replicate n l).flatten := by
  unfold Txt.mul
  by_cases h : (n : Int) < 1
  · rw [if_pos h]
    have : n = 0 := by omega
    subst this; rfl
  · rw [if_neg h]
    by_cases h2 : ((n : Int) == 1 || (mkS l).length == 0) = true
    · rw [if_pos h2]
      rw [mkS_len] at h2
      rcases Bool.or_eq_true .. ▸ h2 with h3 | h3
      · have : n = 1 := by have := beq_iff_eq.mp h3; omega
        subst this; simp
      · have : l = [] := List.eq_nil_of_length_eq_zero (beq_iff_eq.mp h3)
        subst this; simp
    · rw [if_neg h2]
      show Str.mk _ = Str.mk _
      congr 1
      have key : ∀ (k : Nat) (acc : List Nat), (List.replicate k l.toArray).foldl (· ++ ·) acc.toArray = (acc ++ (List.replicate k l).flatten).toArray := by
        intro k
        induction k with
        | zero => intro acc; simp
        | succ k ih =>
          intro acc
          rw [List.replicate_succ, List.foldl_cons, List.append_toArray, ih, List.replicate_succ, List.flatten_cons, List.append_assoc]
      have := key n []
      simpa [mkS] using this
theorem mkS_join (ls : List (List Nat)) : Txt.join (mkS []) (ls.map mkS) = mkS ls.flatten := by
  unfold Txt.join PySem.Builtin.Str.glued
  cases ls with
  | nil => rfl
  | cons a r =>
    show Str.mk _ = Str.mk _
    congr 1
    have key : ∀ (r : List (List Nat)) (acc : List Nat), (r.map mkS).foldl (fun acc p => acc ++ (mkS []).cps ++ p.cps) acc.toArray = (acc ++ r.flatten).toArray := by
      intro r
      induction r with
      | nil => intro acc; simp
      | cons b r ih =>
        intro acc
        rw [List.map_cons, List.foldl_cons]
        have : acc.toArray ++ (mkS []).cps ++ (mkS b).cps = (acc ++ b).toArray := by simp [mkS]
        rw [this, ih]; simp
    exact key r a

/-! ## the deck -/
def dk (cells : List Int) (c : Int) : List Ob := [.lst (cells.map D.int), .lst [.obj 0, .int c]]
structure DkOk (cells : List Int) (c : Int) : Prop where
  nn : ∀ x ∈ cells, (0 : Int) ≤ x
  len : cells.length ≤ 63
  cn : 0 ≤ c
def dkMost : Int := 1099511627776
/-- a def that draws: at most n numbers -/
def drawV {α : Type} (f : α → D) (pre : List D → Prop) (n : Int) (post : List D → α → Prop) : VSp := fun dl ms R => ∃ cells c dl', dl = .obj 1 :: dl' ∧ ms = dk cells c ∧ DkOk cells c ∧ c + n ≤ dkMost ∧ pre dl' ∧
  ∀ a cells' c', DkOk cells' c' → c ≤ c' → c' ≤ c + n → post dl' a → R (f a) (dk cells' c')
theorem ints_ren (f : Nat → Nat) (l : List Int) : renAll f (l.map D.int) = l.map D.int := renAll_im f _ (im_ints l)
theorem lst_ren (f : Nat → Nat) (ds : List D) : (Ob.lst ds).ren f = .lst (renAll f ds) := rfl
theorem fr_dk {cells : List Int} {c : Int} {rest : List Ob} {dl : List D} (h : imAll dl = true) : Fr (dk cells c ++ rest) (.obj 1 :: dl) [0, 1] (dk cells c) (.obj 1 :: dl) where
  nd := by decide
  len := rfl
  at_ := fun j k e => by
    match j, e with
    | 0, e => cases e; exact ⟨_, rfl, by rw [lst_ren, ints_ren]; rfl⟩
    | 1, e => cases e; exact ⟨_, rfl, rfl⟩
    | j + 2, e => cases e
  args := by unfold renAll; rw [renAll_im _ _ h]; rfl
theorem over_dk {cells cells' : List Int} {c c' : Int} {rest : List Ob} {n : Nat} : over (fr [0, 1] n) [0, 1] (dk cells c ++ rest) (dk cells' c') = dk cells' c' ++ rest := by
  show over (fr [0, 1] n) [] _ [] = _
  unfold over
  simp only [List.map_nil, List.append_nil]
  show (Ob.ren _ _) :: (Ob.ren _ _) :: rest = _
  rw [lst_ren, lst_ren, ints_ren]
  rfl
theorem callF_dk {α : Type} {f : α → D} {pre : List D → Prop} {n : Int} {post : List D → α → Prop} {cells : List Int} {c : Int} {rest : List Ob} {dl : List D} {Q : D → List Ob → Prop} (hi : imAll dl = true) (hk : DkOk cells c) (hn : c + n ≤ dkMost) (hp : pre dl)
    (q : ∀ a cells' c', DkOk cells' c' → c ≤ c' → c' ≤ c + n → post dl a → (f a).im = true ∧ Q (f a) (dk cells' c' ++ rest)) : CallF (drawV f pre n post) (.obj 1 :: dl) (dk cells c ++ rest) Q :=
  ⟨[0, 1], dk cells c, _, fr_dk hi, cells, c, dl, rfl, rfl, hk, hn, hp, fun v cells' c' h1 h2 h3 h4 _ => by
    obtain ⟨hv, q⟩ := q v cells' c' h1 h2 h3 h4
    rw [ren_im _ _ hv, over_dk]; exact q⟩
section
variable {α : Type} {f : α → D} {X : Cx} {B : Bs} {ds : List (Option D)} {ms : List Ob} {Q : D → List Ob → Prop} {pos : Pos} {k : Nat} {x : Str} {ps : List Str} {pre : List D → Prop} {n : Int} {post : List D → α → Prop}
/-- the call of a def that draws -/
theorem we_callW {xp : Pos} {e : Expr} {es : List Expr} (G : Dc X.prog X.w X.K X.mg X.base k x ps (drawV f pre n post)) (hr : Room k X.A) (hgd : X.A.guards = some []) (hg : Gl X x)
    (h : WA X B ds ms (e :: es) fun dl m => ∃ cells c rest dl', dl = .obj 1 :: dl' ∧ m = dk cells c ++ rest ∧ DkOk cells c ∧ imAll dl' = true ∧ c + n ≤ dkMost ∧ pre dl' ∧ ∀ a cells' c', DkOk cells' c' → c ≤ c' → c' ≤ c + n → post dl' a → (f a).im = true ∧ Q (f a) (dk cells' c' ++ rest))
    (hdb : (x == ("__debug__" : Str)) = false := by decide) (he : starEach (e :: es) X.env = (false, eval e X.env) :: starEach es X.env := by rfl) (hpl : (backTo pos (starEach es X.env)).any (·.1) = false := by rfl) :
    WE X B ds ms (.Call (.Name x xp) (e :: es) [] pos) Q :=
  we_callD G hr hgd hg (WA.imp h fun d m ⟨cells, c, rest, dl', e1, e2, a, b, hn, p, q⟩ => by subst e1; subst e2; exact callF_dk b a hn p q) hdb he hpl
end
/-- one of the items of a list -/
def oneLV : VSp := fun dl ms R => ∃ cells c items, dl = [.obj 1, .obj 2] ∧ ms = dk cells c ++ [.lst items] ∧ DkOk cells c ∧ c + 1 ≤ dkMost ∧ items ≠ [] ∧ items.length ≤ 1000000 ∧
  ∀ v cells' c', DkOk cells' c' → c ≤ c' → c' ≤ c + 1 → v ∈ items → R v (dk cells' c' ++ [.lst items])
theorem fr_dk3 {cells : List Int} {c : Int} {rest : List Ob} {k : Nat} {items : List D} (hi : imAll items = true) (h : (dk cells c ++ rest)[k]? = some (.lst items)) (h2 : 2 ≤ k) : Fr (dk cells c ++ rest) [.obj 1, .obj k] [0, 1, k] (dk cells c ++ [.lst items]) [.obj 1, .obj 2] where
  nd := by
    refine List.nodup_cons.mpr ⟨?_, List.nodup_cons.mpr ⟨?_, by simp⟩⟩
    · intro z
      rcases List.mem_cons.mp z with z | z
      · cases z
      · have := List.mem_singleton.mp z; omega
    · intro z
      have := List.mem_singleton.mp z; omega
  len := rfl
  at_ := fun j i e => by
    match j, e with
    | 0, e => cases e; exact ⟨_, rfl, by rw [lst_ren, ints_ren]; rfl⟩
    | 1, e => cases e; exact ⟨_, rfl, rfl⟩
    | 2, e => cases e; exact ⟨.lst items, rfl, by rw [h, lst_ren, renAll_im _ _ hi]⟩
    | j + 3, e => cases e
  args := rfl
theorem set_self {α : Type} {l : List α} {k : Nat} {x : α} (h : l[k]? = some x) : l.set k x = l := by
  apply List.ext_getElem?
  intro i
  by_cases e : i = k
  · subst e
    rw [List.getElem?_set_self (List.getElem?_eq_some_iff.mp h).1, h]
  · rw [List.getElem?_set_ne (Ne.symm e)]
theorem over_dk3 {cells cells' : List Int} {c c' : Int} {rest : List Ob} {k : Nat} {items : List D} {n : Nat} (hi : imAll items = true) (h : (dk cells c ++ rest)[k]? = some (.lst items)) (h2 : 2 ≤ k) :
    over (fr [0, 1, k] n) [0, 1, k] (dk cells c ++ rest) (dk cells' c' ++ [.lst items]) = dk cells' c' ++ rest := by
  show over (fr [0, 1, k] n) [] _ [] = _
  unfold over
  simp only [List.map_nil, List.append_nil]
  show (((Ob.ren _ _) :: (Ob.ren _ _) :: rest).set k (Ob.ren _ (.lst items))) = _
  have e1 : (Ob.ren (fr [0, 1, k] n) (.lst items)) = .lst items := by rw [lst_ren, renAll_im _ _ hi]
  have e2 : Ob.ren (fr [0, 1, k] n) (.lst (cells'.map D.int)) = .lst (cells'.map D.int) := by rw [lst_ren, ints_ren]
  have e3 : Ob.ren (fr [0, 1, k] n) (.lst [.obj 0, .int c']) = .lst [.obj 0, .int c'] := rfl
  rw [e1, e2, e3]
  obtain ⟨j, rfl⟩ : ∃ j, k = j + 2 := ⟨k - 2, by omega⟩
  have h' : rest[j]? = some (.lst items) := h
  show _ :: _ :: rest.set j _ = _
  rw [set_self h']
  rfl
section
variable {X : Cx} {B : Bs} {ds : List (Option D)} {ms : List Ob} {Q : D → List Ob → Prop} {pos : Pos} {k : Nat} {x : Str} {ps : List Str}
theorem we_oneL {α : Type} {xp : Pos} {e : Expr} {es : List Expr} (G : Dc X.prog X.w X.K X.mg X.base k x ps oneLV) (hr : Room k X.A) (hgd : X.A.guards = some []) (hg : Gl X x)
    (h : WA X B ds ms (e :: es) fun dl m => ∃ (cells : List Int) (c : Int) (rest : List Ob) (j : Nat) (xs : List α) (f : α → D), dl = [.obj 1, .obj j] ∧ m = dk cells c ++ rest ∧ DkOk cells c ∧ m[j]? = some (.lst (xs.map f)) ∧ 2 ≤ j ∧ imAll (xs.map f) = true ∧ c + 1 ≤ dkMost ∧ xs ≠ [] ∧ xs.length ≤ 1000000 ∧
      ∀ a cells' c', DkOk cells' c' → c ≤ c' → c' ≤ c + 1 → a ∈ xs → Q (f a) (dk cells' c' ++ rest))
    (hdb : (x == ("__debug__" : Str)) = false := by decide) (he : starEach (e :: es) X.env = (false, eval e X.env) :: starEach es X.env := by rfl) (hpl : (backTo pos (starEach es X.env)).any (·.1) = false := by rfl) :
    WE X B ds ms (.Call (.Name x xp) (e :: es) [] pos) Q :=
  we_callD G hr hgd hg (WA.imp h fun d m ⟨cells, c, rest, j, xs, f, e1, e2, a, hj, h2, hi, hn, hne, hl, q⟩ => by
    subst e1; subst e2
    exact ⟨[0, 1, j], _, _, fr_dk3 hi hj h2, cells, c, xs.map f, rfl, rfl, a, hn, fun z => hne (List.map_eq_nil_iff.mp z), by rw [List.length_map]; exact hl, fun v cells' c' h1 h2' h3 h4 _ => by
      rw [ren_im _ _ (imAll_iff.mp hi v h4), over_dk3 hi hj h2]
      obtain ⟨b, hb, rfl⟩ := List.mem_map.mp h4
      exact q b cells' c' h1 h2' h3 hb⟩) hdb he hpl
end
theorem wss_mid {X : Cx} {B : Bs} {fl : Nat} {ds : List (Option D)} {ms : List Ob} {st : Stmt} {rest : List Stmt} {E : En} (Mid : List (Option D) → List Ob → Prop) (h1 : WS X B fl ds ms st { E with nx := Mid }) (h2 : ∀ ds' ms', Mid ds' ms' → WSs X B fl ds' ms' rest E) : WSs X B fl ds ms (st :: rest) E :=
  wss_cons <| .mk fun σ H θ hf S L => (h1 σ H θ hf S L).imp (fun _ _ z => nxOf.imp h2 z) (fun _ _ z => z) (fun _ _ z => z) (fun _ _ z => z)
/-! ## what the laws' own helpers promise -/
def deckP : VSp := fun dl ms R => ∃ ns : List Int, ns.length ≤ 63 ∧ dl = [.rol (ns.map D.int)] ∧ ms = [] ∧ ∀ cells, DkOk cells 0 → R (.obj 1) (dk cells 0)
theorem len_deckP : ∀ dl ms R, deckP dl ms R → dl.length = 1 := by rintro dl ms R ⟨ns, _, rfl, _⟩; rfl
def drawP : VSp := drawV D.int (fun dl => ∃ most : Int, dl = [.int most] ∧ 0 < most ∧ most ≤ 1000000000000000000000000000000000000000) 1 (fun dl (k : Int) => ∀ most, dl = [.int most] → 0 ≤ k ∧ k < most)
theorem len_drawP : ∀ dl ms R, drawP dl ms R → dl.length = 2 := by rintro dl ms R ⟨cells, c, dl', rfl, _, _, _, ⟨most, rfl, _⟩, _⟩; rfl
theorem divw {i m : Int} (h0 : 0 < m) (h1 : m ≤ 1000000000000000000000000000000000000000) : CDivW i m := ⟨h0, by
  have hne : m.natAbs ≠ 0 := by omega
  have h2 : m.natAbs < 2 ^ 130 := by
    have : (2 : Nat) ^ 130 = 1361129467683753853853498429727072845824 := by decide
    omega
  have := (Nat.log2_lt hne).mpr h2
  omega⟩
def oneSV : VSp := drawV (fun a : Nat => dS [a]) (fun dl => ∃ l, dl = [dS l] ∧ l ≠ [] ∧ l.length ≤ 1000000) 1 (fun dl a => ∀ l, dl = [dS l] → a ∈ l)
def oneTV : VSp := drawV (fun d : D => d) (fun dl => ∃ items, dl = [.tup items] ∧ imAll items = true ∧ items ≠ [] ∧ items.length ≤ 1000000) 1 (fun dl a => ∀ items, dl = [.tup items] → a ∈ items)
def oneP : VSp := fun dl ms R => oneLV dl ms R ∨ oneSV dl ms R ∨ oneTV dl ms R
theorem len_oneP : ∀ dl ms R, oneP dl ms R → dl.length = 2 := by
  rintro dl ms R (h | h | h)
  · obtain ⟨cells, c, items, rfl, _⟩ := h; rfl
  · obtain ⟨cells, c, dl', rfl, _, _, _, ⟨l, rfl, _⟩, _⟩ := h; rfl
  · obtain ⟨cells, c, dl', rfl, _, _, _, ⟨l, rfl, _⟩, _⟩ := h; rfl
theorem atI_pick {α : Type} {xs : List α} {k : Int} (h : 0 ≤ k ∧ k < xs.length) : atI xs k = some (xs.get ⟨k.toNat, by omega⟩) := by
  unfold atI ixN
  rw [if_pos h.1, if_pos h.2]
  show xs[k.toNat]? = _
  rw [List.getElem?_eq_getElem (by omega : k.toNat < xs.length)]; rfl
/-- [draw for x in xs] -/
theorem lc_draw {α β : Type} {X : Cx} {ds : List (Option D)} {scope : Scope} {vs : List Nat} {app : D → List (Option D) → Option (List (Option D))} {elt : Expr} {G : List Ob → Prop} {m : List Ob} {Q : D → List Ob → Prop} {items : List D} {cells : List Int} {c : Int} (rest : List Ob) (xs : List α) (e : α → D) (f : β → D) (n : Nat) (Pr : α → β → Prop) (hi : items = xs.map e)
    (hm : m = dk cells c ++ rest) (ok : DkOk cells c) (hn : c + n * xs.length ≤ dkMost) (hz : xs.length ≤ sizeLine) (hG : ∀ cells' c', G (dk cells' c' ++ rest))
    (step : ∀ a ∈ xs, ∃ ds', app (e a) (wipeD ds vs) = some ds' ∧ ∀ cells' c', DkOk cells' c' → c ≤ c' → c' + n ≤ dkMost → ∀ (B : Bs) (s : Shared) (H : Hp) (C : Addr) (cl : List (Str × Addr)) (fp : List Addr), WE (X.blk s H scope (compEnvC scope cl C X.env) fp) B ds' (dk cells' c' ++ rest) elt fun y m4 => ∃ b cells2 c2, y = f b ∧ DkOk cells2 c2 ∧ c' ≤ c2 ∧ c2 ≤ c' + n ∧ Pr a b ∧ m4 = dk cells2 c2 ++ rest)
    (q : ∀ (bs : List β) (cells' : List Int) (c' : Int), bs.length = xs.length → (∀ (i : Nat) a b, xs[i]? = some a → bs[i]? = some b → Pr a b) → DkOk cells' c' → c ≤ c' → c' ≤ c + n * xs.length → Q (.obj (dk cells' c' ++ rest).length) (dk cells' c' ++ rest ++ [.lst (bs.map f)])) : LcWord X ds scope vs app [] elt items G m Q := by
  subst hi; subst hm
  refine ⟨fun i acc m' => ∃ (bs : List β) (cells' : List Int) (c' : Int), bs.length = i ∧ (∀ (j : Nat) a b, xs[j]? = some a → bs[j]? = some b → Pr a b) ∧ DkOk cells' c' ∧ c ≤ c' ∧ c' ≤ c + n * i ∧ acc = bs.map f ∧ m' = dk cells' c' ++ rest,
    ⟨[], cells, c, rfl, fun j a b _ h => by simp at h, ok, Int.le_refl _, by simp, rfl, rfl⟩, fun i acc m' ⟨bs, cells', c', _, _, _, _, _, _, h⟩ => h ▸ hG cells' c', fun i d acc m' hi h => ?_, fun acc m' h _ => ?_⟩
  · obtain ⟨bs, cells', c', hl, hP, ok', h1, h2, ha, rfl⟩ := h
    rw [List.getElem?_map] at hi
    obtain ⟨a, ea, rfl⟩ := Option.map_eq_some_iff.mp hi
    have hlt : i < xs.length := (List.getElem?_eq_some_iff.mp ea).1
    have hmul : (n : Int) * i + n ≤ n * xs.length := by
      have : (n : Int) * i + n = n * (i + 1 : Nat) := by rw [Int.natCast_add, Int.mul_add]; simp
      rw [this]
      exact Int.mul_le_mul_of_nonneg_left (by omega) (by omega)
    obtain ⟨ds', e1, st⟩ := step a (List.mem_of_getElem? ea)
    refine ⟨by rw [ha, List.length_map, hl]; omega, ds', e1, fun B s H C cl fp => ⟨fun _ s H C cl fp => ?_, fun h => by cases h⟩⟩
    refine we_imp (st cells' c' ok' h1 (by omega) B s H C cl fp) fun y m4 ⟨b, cells2, c2, ey, ok2, g1, g2, hb, em⟩ => .inl ⟨bs ++ [b], cells2, c2, by rw [List.length_append, hl]; rfl, fun j a' b' g3 g4 => ?_, ok2, by omega, ?_, by rw [ha, ey, List.map_append]; rfl, em⟩
    · by_cases hj : j < bs.length
      · rw [List.getElem?_append_left hj] at g4
        exact hP j a' b' g3 g4
      · rw [List.getElem?_append_right (by omega)] at g4
        have : j - bs.length = 0 := by
          have := (List.getElem?_eq_some_iff.mp g4).1
          simp at this; omega
        have hj' : j = i := by omega
        subst hj'
        rw [this] at g4
        rw [ea] at g3
        cases g3; cases g4
        exact hb
    · have : (n : Int) * ((i + 1 : Nat) : Int) = n * i + n := by rw [Int.natCast_add, Int.mul_add]; simp
      rw [this]; omega
  · obtain ⟨bs, cells', c', hl, hP, ok', h1, h2, rfl, rfl⟩ := h
    rw [List.length_map] at hl h2
    exact q bs cells' c' hl hP ok' h1 h2
/-- a def that draws, by its body -/
theorem fr_dkR {cells : List Int} {c : Int} {rest : List Ob} {d : D} (h : d.im = true) : Fr (dk cells c ++ rest) [d] [0, 1] (dk cells c) [d] := by
  have F := fr_dk (cells := cells) (c := c) (rest := rest) (dl := []) rfl
  exact ⟨F.nd, F.len, F.at_, by unfold renAll; rw [ren_im _ _ h]; rfl⟩
section
variable {P : Program} {w : World} {K : PySem.W.Frag} {mg : Str → Option Value} {base : Heap}
theorem vfnW {α : Type} {f0 : α → D} {pre : List D → Prop} {n : Int} {post : List D → α → Prop} {x qual : Str} {st : Stmt} {f : Addr} {fd : FuncData} {N ps : List Str} {k : Nat} (F : Fun K x qual st f fd) (S : FnScope N ps (defScope st)) (len : ∀ dl ms R, drawV f0 pre n post dl ms R → dl.length = ps.length)
    (body : ∀ (cdv : Value) (A : Around) (outer : List Env) (s : Shared) (H : Hp), Room k (A.deeper (envOfC qual (defScope st) s.heap.objs.size f cdv)) → (A.deeper (envOfC qual (defScope st) s.heap.objs.size f cdv)).guards = some [] → ∀ (B : Bs) (cells : List Int) (c : Int) (dl' : List D), DkOk cells c → c + n ≤ dkMost → pre dl' →
      WSs (cxOf CX0 P w K mg base N qual (defScope st) f cdv A outer s H E0).nox B 2 (startD N.length (.obj 1 :: dl')) (dk cells c) (defBody st) ⟨fun _ _ => False, fun d m => ∃ a cells' c' rest, d = f0 a ∧ (f0 a).im = true ∧ DkOk cells' c' ∧ c ≤ c' ∧ c' ≤ c + n ∧ post dl' a ∧ m = dk cells' c' ++ rest, fun _ _ => False, fun _ _ => False⟩) : FnG P w K mg base (k + 1) f fd ps (spOf K (drawV f0 pre n post)) := by
  refine vfn F S len (fun cdv A outer s H hr hgd B dl ms R h => ?_)
  obtain ⟨cells, c, dl', rfl, rfl, ok, hc, hp, q⟩ := h
  refine wss_ret (fun d m => ∃ a cells' c' rest, d = f0 a ∧ (f0 a).im = true ∧ DkOk cells' c' ∧ c ≤ c' ∧ c' ≤ c + n ∧ post dl' a ∧ m = dk cells' c' ++ rest) (fun d m h => ?_) ?_
  · obtain ⟨a, cells', c', rest, rfl, hi, ok', h1, h2, hpo, rfl⟩ := h
    exact ⟨[0, 1], dk cells' c', f0 a, fr_dkR hi, fun j (hj : j < 2) => by
      match j, hj with
      | 0, _ => rfl
      | 1, _ => rfl, q a cells' c' ok' h1 h2 hpo⟩
  · exact .mk fun σ H1 θ hf S L => (body cdv A outer s H hr hgd B cells c dl' ok hc hp σ H1 θ hf S L).imp (fun _ _ z => by obtain ⟨_, _, _, _, _, _, _, z⟩ := z; exact z.elim) (fun _ _ z => z) (fun _ _ z => z) (fun _ _ z => z)
end
theorem gD {a b : List Int} {c d : Int} {r : List Ob} {x : Ob} : (dk a c ++ (r ++ [x]))[(dk b d ++ r).length]? = some x := by simp [dk]
theorem callF_deck {ns : List Int} {Q : D → List Ob → Prop} (hl : ns.length ≤ 63) (q : ∀ cells, DkOk cells 0 → Q (.obj 1) (dk cells 0)) : CallF deckP [.rol (ns.map D.int)] [] Q :=
  ⟨[], [], [.rol (ns.map D.int)], Fr.none (by unfold imAll; rw [show (D.rol (ns.map D.int)).im = imAll (ns.map D.int) from rfl, im_ints]; rfl), ns, hl, rfl, rfl, fun cells ok _ => by
    have e : over (fr [] ([] : List Ob).length) [] [] (dk cells 0) = dk cells 0 := by
      show [Ob.ren _ _, Ob.ren _ _] = _
      rw [lst_ren, lst_ren, ints_ren]; rfl
    rw [e]; exact q cells ok⟩
theorem gK {a : List Int} {c : Int} {r : List Ob} {j : Nat} {x : Ob} (h : r[j]? = some x) : (dk a c ++ r)[j + 2]? = some x := h
end VL

namespace VL
open PySem PySem.Spec PyProof.Rows L2

/-! ## comparisons -/
structure Cmp where
  L : Nat
  rows : List (List Nat)
  marks : List Int
def rowD (r : List Nat) : D := .tup (r.map fun n => .int (n : Nat))
def Cmp.d (c : Cmp) : D := .tup [.int c.L, .tup (c.rows.map rowD), .tup (c.marks.map D.int)]
structure Cmp.Ok (c : Cmp) : Prop where
  l1 : 1 ≤ c.L
  l3 : c.L ≤ 3
  ne : c.rows ≠ []
  wid : ∀ r ∈ c.rows, r.length = (c.L + 1) * (c.L + 1) - 1
  in_ : ∀ r ∈ c.rows, ∀ n ∈ r, n < c.rows.length
  mkl : c.marks.length = c.rows.length
  sz : c.rows.length ≤ 4096
  mr : ∀ v ∈ c.marks, -1 ≤ v ∧ v ≤ 1
def ltr (L : Nat) : List Nat := [97, 98, 99].take L
def sgn (L : Nat) : List Nat := ltr L ++ [46]
def colsN (L : Nat) : List (List Nat) := ((sgn L).flatMap fun a => (sgn L).map fun b => [a, b]).dropLast
theorem lcase {L : Nat} (h1 : 1 ≤ L) (h3 : L ≤ 3) : L = 1 ∨ L = 2 ∨ L = 3 := by omega
def sIdx (L a : Nat) : Nat := (sgn L).idxOf a
def colN (L a b : Nat) : Nat := sIdx L a * (L + 1) + sIdx L b
theorem im_dS (l : List (List Nat)) : imAll (l.map dS) = true := imAll_iff.mpr fun d hd => by
  obtain ⟨i, _, rfl⟩ := List.mem_map.mp hd; rfl
theorem im_row (r : List Nat) : (rowD r).im = true := by
  unfold rowD D.im
  exact imAll_iff.mpr fun d hd => by obtain ⟨i, _, rfl⟩ := List.mem_map.mp hd; rfl
theorem im_rows (rs : List (List Nat)) : imAll (rs.map rowD) = true := imAll_iff.mpr fun d hd => by
  obtain ⟨i, _, rfl⟩ := List.mem_map.mp hd; exact im_row i
theorem Cmp.im (c : Cmp) : c.d.im = true := by
  show (true && (imAll (c.rows.map rowD) && (imAll (c.marks.map D.int) && true))) = true
  rw [im_rows, im_ints]; rfl
theorem getE_map {α β : Type} {f : α → β} {l : List α} {i : Nat} {d : β} (h : (l.map f)[i]? = some d) : ∃ a, l[i]? = some a ∧ d = f a := by
  rw [List.getElem?_map] at h
  obtain ⟨a, h1, h2⟩ := Option.map_eq_some_iff.mp h
  exact ⟨a, h1, h2.symm⟩
theorem getE_str {l : List Nat} {i : Nat} {d : D} (h : ((mkS l).cps.toList.map fun c => D.str ⟨#[c]⟩)[i]? = some d) : ∃ a, l[i]? = some a ∧ d = dS [a] := by
  rw [mkS_items] at h
  exact getE_map h
theorem flatMap_take_succ {α β : Type} {l : List α} {i : Nat} {a : α} (f : α → List β) (h : l[i]? = some a) : (l.take (i + 1)).flatMap f = (l.take i).flatMap f ++ f a := by
  rw [List.take_succ, h, List.flatMap_append]; simp
theorem map_take_succ {α β : Type} {l : List α} {i : Nat} {a : α} (f : α → β) (h : l[i]? = some a) : (l.take (i + 1)).map f = (l.take i).map f ++ [f a] := by
  rw [List.take_succ, h, List.map_append]; simp
theorem sgn_len {L : Nat} (h : L ≤ 3) : (sgn L).length = L + 1 := by
  unfold sgn ltr; simp; omega
theorem cutN_init {α : Type} (l : List α) : cutN l none (some (-1)) = l.dropLast := by
  unfold cutN
  rw [List.dropLast_eq_take]
  show (l.drop 0).take (HT.sIx l.length l.length (some (-1)) - 0) = _
  rw [List.drop_zero]
  congr 1
  show (if (-1 : Int) < 0 then ((-1 : Int) + (l.length : Int)).toNat else min (-1 : Int).toNat l.length) - 0 = _
  rw [if_pos (by decide)]; omega
theorem cutD_eq (xs : List D) (lo hi : Option Int) : cutD xs lo hi = cutN xs lo hi := rfl
theorem cutN_from {α : Type} (l : List α) (k : Nat) : cutN l (some (k : Int)) none = l.drop k := by
  unfold cutN
  rw [HT.sIx_nat, HT.sIx_none]
  by_cases h : k ≤ l.length
  · rw [Nat.min_eq_left h, List.take_of_length_le (by rw [List.length_drop]; omega)]
  · rw [Nat.min_eq_right (by omega), List.drop_eq_nil_of_le (Nat.le_refl _), List.drop_eq_nil_of_le (by omega : l.length ≤ k)]; simp
theorem cutN_to {α : Type} (l : List α) (k : Nat) : cutN l none (some (k : Int)) = l.take k := by
  unfold cutN
  rw [HT.sIx_nat, HT.sIx_none, List.drop_zero]
  by_cases h : k ≤ l.length
  · rw [Nat.min_eq_left h]; rfl
  · rw [Nat.min_eq_right (by omega), List.take_of_length_le (by omega), List.take_of_length_le (by omega)]
theorem cutN_both {α : Type} (l : List α) (j k : Nat) : cutN l (some (j : Int)) (some (k : Int)) = (l.drop j).take (k - j) := by
  unfold cutN
  rw [HT.sIx_nat, HT.sIx_nat]
  by_cases h : j ≤ l.length
  · rw [Nat.min_eq_left h]
    by_cases h2 : k ≤ l.length
    · rw [Nat.min_eq_left h2]
    · rw [Nat.min_eq_right (by omega), List.take_of_length_le (by rw [List.length_drop]; omega), List.take_of_length_le (by rw [List.length_drop]; omega)]
  · rw [Nat.min_eq_right (by omega : l.length ≤ j), List.drop_eq_nil_of_le (Nat.le_refl _), List.drop_eq_nil_of_le (by omega : l.length ≤ j)]; simp
/-- the state behind a column -/
def stepN (c : Cmp) (s a b : Nat) : Nat := (c.rows.getD s []).getD (colN c.L a b) 0
def nextN (c : Cmp) (s a b : Nat) : Nat := if a = 46 ∧ b = 46 then s else stepN c s a b
/-- the state behind the first i columns of two words -/
def runN (c : Cmp) (x y : List Nat) : Nat → Nat
  | 0 => 0
  | i + 1 => stepN c (runN c x y i) (x.getD i 46) (y.getD i 46)
def readN (c : Cmp) (x y : List Nat) : Nat := runN c x y (max x.length y.length)
def tellN (c : Cmp) (x y : List Nat) : Int := c.marks.getD (readN c x y) 0
def Wd (L : Nat) (x : List Nat) : Prop := ∀ a ∈ x, a ∈ ltr L
theorem col_lt {L a b : Nat} (h1 : 1 ≤ L) (h3 : L ≤ 3) (ha : a ∈ sgn L) (hb : b ∈ sgn L) (hn : ¬ (a = 46 ∧ b = 46)) : colN L a b < (L + 1) * (L + 1) - 1 := by
  have key : ∀ L ∈ [1, 2, 3], ∀ a ∈ sgn L, ∀ b ∈ sgn L, ¬ (a = 46 ∧ b = 46) → colN L a b < (L + 1) * (L + 1) - 1 := by decide +kernel
  exact key L (by rcases lcase h1 h3 with rfl | rfl | rfl <;> simp) a ha b hb hn
theorem col_at {L a b : Nat} (h1 : 1 ≤ L) (h3 : L ≤ 3) (ha : a ∈ sgn L) (hb : b ∈ sgn L) (hn : ¬ (a = 46 ∧ b = 46)) : (colsN L)[colN L a b]? = some [a, b] := by
  have key : ∀ L ∈ [1, 2, 3], ∀ a ∈ sgn L, ∀ b ∈ sgn L, ¬ (a = 46 ∧ b = 46) → (colsN L)[colN L a b]? = some [a, b] := by decide +kernel
  exact key L (by rcases lcase h1 h3 with rfl | rfl | rfl <;> simp) a ha b hb hn
theorem cols_nodup {L : Nat} (h1 : 1 ≤ L) (h3 : L ≤ 3) : (colsN L).Nodup := by
  rcases lcase h1 h3 with rfl | rfl | rfl <;> decide +kernel
theorem cols_len {L : Nat} (h1 : 1 ≤ L) (h3 : L ≤ 3) : (colsN L).length = (L + 1) * (L + 1) - 1 := by
  rcases lcase h1 h3 with rfl | rfl | rfl <;> decide +kernel
theorem sgn_end (L : Nat) : 46 ∈ sgn L := by unfold sgn; simp
theorem Wd.at_ {L : Nat} {x : List Nat} (h : Wd L x) (i : Nat) : x.getD i 46 ∈ sgn L := by
  rw [List.getD_eq_getElem?_getD]
  cases e : x[i]? with
  | none => exact sgn_end L
  | some a => exact List.mem_append_left _ (h a (List.mem_of_getElem? e))
theorem ltr_ne {L a : Nat} (h : a ∈ ltr L) : a ≠ 46 := by
  unfold ltr at h
  have := List.mem_of_mem_take h
  simp at this; omega
theorem Wd.not_end {L : Nat} {x : List Nat} (h : Wd L x) {i : Nat} (hi : i < x.length) : x.getD i 46 ≠ 46 := by
  rw [List.getD_eq_getElem?_getD, List.getElem?_eq_getElem hi]
  exact ltr_ne (h _ (List.getElem_mem hi))
theorem both_end {L : Nat} {x y : List Nat} (hx : Wd L x) (hy : Wd L y) {i : Nat} (hi : i < max x.length y.length) : ¬ (x.getD i 46 = 46 ∧ y.getD i 46 = 46) := fun ⟨e1, e2⟩ => by
  by_cases h : i < x.length
  · exact hx.not_end h e1
  · exact hy.not_end (by omega : i < y.length) e2
theorem Cmp.Ok.row {c : Cmp} (ok : c.Ok) {s : Nat} (hs : s < c.rows.length) : ∃ r, c.rows[s]? = some r ∧ r ∈ c.rows := ⟨c.rows[s], List.getElem?_eq_getElem hs, List.getElem_mem hs⟩
theorem Cmp.Ok.step {c : Cmp} (ok : c.Ok) {s a b : Nat} (hs : s < c.rows.length) (ha : a ∈ sgn c.L) (hb : b ∈ sgn c.L) (hn : ¬ (a = 46 ∧ b = 46)) : ∃ r, c.rows[s]? = some r ∧ r[colN c.L a b]? = some (stepN c s a b) ∧ stepN c s a b < c.rows.length := by
  obtain ⟨r, e, hr⟩ := ok.row hs
  have hl : colN c.L a b < r.length := by rw [ok.wid r hr]; exact col_lt ok.l1 ok.l3 ha hb hn
  have es : stepN c s a b = r[colN c.L a b] := by
    unfold stepN
    rw [List.getD_eq_getElem?_getD, List.getD_eq_getElem?_getD, e]
    show (r[colN c.L a b]?).getD 0 = _
    rw [List.getElem?_eq_getElem hl]; rfl
  exact ⟨r, e, by rw [es]; exact List.getElem?_eq_getElem hl, by rw [es]; exact ok.in_ r hr _ (List.getElem_mem hl)⟩
theorem Cmp.Ok.run {c : Cmp} (ok : c.Ok) {x y : List Nat} (hx : Wd c.L x) (hy : Wd c.L y) : ∀ i, i ≤ max x.length y.length → runN c x y i < c.rows.length
  | 0, _ => List.length_pos_iff.mpr ok.ne
  | i + 1, h => by
    obtain ⟨r, _, _, h⟩ := ok.step (ok.run hx hy i (by omega)) (hx.at_ i) (hy.at_ i) (both_end hx hy (by omega))
    exact h
theorem Cmp.Ok.mark {c : Cmp} (ok : c.Ok) {x y : List Nat} (hx : Wd c.L x) (hy : Wd c.L y) : c.marks[readN c x y]? = some (tellN c x y) := by
  have h := ok.run hx hy _ (Nat.le_refl _)
  rw [← ok.mkl] at h
  unfold tellN readN
  rw [List.getD_eq_getElem?_getD, List.getElem?_eq_getElem h]; rfl
/-! ### places of columns -/
def spotsK (ls : List (List Nat)) (n : Nat) : List (Key × D) := match ls with
  | [] => []
  | a :: r => (.inr (mkS a), .int (n : Nat)) :: spotsK r (n + 1)
theorem spotsK_eq : ∀ (ls : List (List Nat)) (n : Nat), spotsK ls n = (ls.zipIdx n).map fun p => ((.inr (mkS p.1) : Key), D.int (p.2 : Nat))
  | [], n => rfl
  | a :: r, n => by unfold spotsK; rw [spotsK_eq r (n + 1)]; rfl
theorem spots_val {k : List Nat} : ∀ (ls : List (List Nat)) (n j : Nat), ls[j]? = some k → ls.Nodup → valD (spotsK ls n) (.inr (mkS k)) = some (.int ((n + j : Nat) : Int))
  | [], n, j, h, _ => by simp at h
  | a :: r, n, 0, h, _ => by
    have : a = k := by simpa using h
    subst this
    unfold spotsK valD
    rw [List.find?_cons_of_pos (by simp)]; rfl
  | a :: r, n, j + 1, h, nd => by
    have h' : r[j]? = some k := by simpa using h
    have hne : a ≠ k := fun e => by
      subst e
      exact (List.nodup_cons.mp nd).1 (List.mem_of_getElem? h')
    unfold spotsK valD
    rw [List.find?_cons_of_neg (by simpa using fun e => hne (mkS_inj e))]
    have := spots_val r (n + 1) j h' (List.nodup_cons.mp nd).2
    unfold valD at this
    rw [this, show n + 1 + j = n + (j + 1) by omega]
theorem spots_app (k : List Nat) : ∀ (ls : List (List Nat)) (n : Nat), spotsK (ls ++ [k]) n = spotsK ls n ++ [(.inr (mkS k), .int ((n + ls.length : Nat) : Int))]
  | [], n => rfl
  | a :: r, n => by
    show _ :: spotsK (r ++ [k]) (n + 1) = _ :: (spotsK r (n + 1) ++ _)
    rw [spots_app k r (n + 1), List.length_cons, show n + 1 + r.length = n + (r.length + 1) by omega]
theorem spots_any {k : List Nat} : ∀ (ls : List (List Nat)) (n : Nat), k ∉ ls → ((spotsK ls n).any fun kv => decide (kv.1 = .inr (mkS k))) = false
  | [], n, _ => rfl
  | a :: r, n, h => by
    unfold spotsK
    rw [List.any_cons, spots_any r (n + 1) fun z => h (List.mem_cons_of_mem _ z)]
    have : ¬ (Sum.inr (mkS a) : Key) = .inr (mkS k) := fun e => h (by rw [mkS_inj (Sum.inr.inj e)]; exact List.mem_cons_self)
    simp [this]
theorem spots_put {k : List Nat} {ls : List (List Nat)} (h : k ∉ ls) : putD (spotsK ls 0) (.inr (mkS k)) (.int (ls.length : Nat)) = spotsK (ls ++ [k]) 0 := by
  unfold putD
  rw [spots_any ls 0 h, if_neg (by decide), spots_app, Nat.zero_add]
theorem notin_take {α : Type} {l : List α} {i : Nat} {a : α} (nd : l.Nodup) (h : l[i]? = some a) : a ∉ l.take i := fun z => by
  obtain ⟨j, hj, e⟩ := List.getElem_of_mem z
  have hj' : j < i := by rw [List.length_take] at hj; omega
  obtain ⟨hi, e2⟩ := List.getElem?_eq_some_iff.mp h
  rw [List.getElem_take] at e
  have := (List.getElem_inj nd).mp (e.trans e2.symm)
  omega
theorem enum_at {xs : List D} {i : Nat} {d : D} (h : (enumD xs)[i]? = some d) : ∃ x, xs[i]? = some x ∧ d = .tup [.int (i : Nat), x] := by
  unfold enumD at h
  rw [List.getElem?_zipWith] at h
  cases e : xs[i]? with
  | none => rw [e] at h; cases e2 : (List.range xs.length)[i]? <;> rw [e2] at h <;> cases h
  | some x =>
    have hi : i < xs.length := (List.getElem?_eq_some_iff.mp e).1
    rw [e, List.getElem?_range hi] at h
    exact ⟨x, rfl, (Option.some.inj h).symm⟩
theorem enum_len (xs : List D) : (enumD xs).length = xs.length := by unfold enumD; simp
theorem pad_at (x : List Nat) (n i : Nat) (hi : i < n) (hn : x.length ≤ n) : (x ++ List.replicate (n - x.length) 46)[i]? = some (x.getD i 46) := by
  rw [List.getD_eq_getElem?_getD]
  by_cases h : i < x.length
  · rw [List.getElem?_append_left h, List.getElem?_eq_getElem h]; rfl
  · rw [List.getElem?_append_right (by omega), List.getElem?_eq_none (by omega : x.length ≤ i), List.getElem?_replicate, if_pos (by omega)]; rfl
theorem atI_nat' {α : Type} {xs : List α} {j : Nat} {a : α} (h : xs[j]? = some a) : atI xs (j : Int) = some a := atI_nat h
theorem spots_keys {ls : List (List Nat)} (nd : ls.Nodup) : (ls.zipIdx.map fun p => (.inr (mkS p.1) : Key)).Nodup := by
  have : (ls.zipIdx.map fun p => (.inr (mkS p.1) : Key)) = ls.map fun a => (.inr (mkS a) : Key) := by
    have h := List.map_map (f := Prod.fst) (g := fun a => (.inr (mkS a) : Key)) (l := ls.zipIdx)
    rw [List.zipIdx_map_fst] at h
    exact h.symm
  rw [this]
  unfold List.Nodup
  rw [List.pairwise_map]
  exact List.Pairwise.imp (fun h e => h (mkS_inj (Sum.inr.inj e))) nd
/-! ### readers -/
def readerF (c : Cmp) (k : Nat) : List (Str × D) := [("letters", .int c.L), ("rows", .tup (c.rows.map rowD)), ("marks", .tup (c.marks.map D.int)), ("spots", .obj k)]
theorem readerF_ren (c : Cmp) (k : Nat) (f : Nat → Nat) : renKV f (readerF c k) = readerF c (f k) := by
  have e1 : D.ren f (.tup (c.rows.map rowD)) = .tup (c.rows.map rowD) := ren_im f _ (by unfold D.im; exact im_rows _)
  have e2 : D.ren f (.tup (c.marks.map D.int)) = .tup (c.marks.map D.int) := ren_im f _ (by unfold D.im; exact im_ints _)
  unfold readerF renKV renKV renKV renKV
  rw [e1, e2]; rfl
theorem spotsK_ren (f : Nat → Nat) : ∀ (ls : List (List Nat)) (n : Nat), renKV f (spotsK ls n) = spotsK ls n
  | [], n => rfl
  | a :: r, n => by unfold spotsK renKV; rw [spotsK_ren f r]; rfl
def spotsD (L : Nat) : Ob := .dK (spotsK (colsN L) 0)
def readerAt (C : Str) (m : List Ob) (k j : Nat) (c : Cmp) : Prop := m[k]? = some (.ins C (readerF c j)) ∧ m[j]? = some (spotsD c.L) ∧ k ≠ j
def initP (C : Str) : VSp := fun dl ms R => ∃ c : Cmp, c.Ok ∧ dl = [.obj 0, c.d] ∧ ms = [.ins C []] ∧ R .non [.ins C (readerF c 1), spotsD c.L]
theorem callF_initR {m : List Ob} {C : Str} {c : Cmp} {Q : D → List Ob → Prop} (ok : c.Ok) (q : Q .non (m ++ [.ins C (readerF c (m.length + 1)), spotsD c.L])) : CallF (initP C) [.obj m.length, c.d] (m ++ [.ins C []]) Q := by
  refine callF_init (dl := [c.d]) (by unfold imAll; rw [Cmp.im]; rfl) ⟨c, ok, rfl, rfl, fun _ => ?_⟩
  have e : ([Ob.ins C (readerF c 1), spotsD c.L].map (Ob.ren (m.length + ·))) = [.ins C (readerF c (m.length + 1)), spotsD c.L] := by
    show [Ob.ins C (renKV _ _), Ob.dK (renKV _ _)] = _
    rw [readerF_ren, spotsK_ren]; rfl
  rw [e]; exact q
def afterP (C : Str) : VSp := fun dl ms R => ∃ (c : Cmp) (s a b : Nat), c.Ok ∧ s < c.rows.length ∧ a ∈ sgn c.L ∧ b ∈ sgn c.L ∧ dl = [.obj 0, .int (s : Nat), dS [a], dS [b]] ∧ ms = [.ins C (readerF c 1), spotsD c.L] ∧
  R (.int (nextN c s a b : Nat)) [.ins C (readerF c 1), spotsD c.L]
theorem callF_after {m : List Ob} {C : Str} {k j : Nat} {c : Cmp} {s a b : Nat} {Q : D → List Ob → Prop} (ok : c.Ok) (hm : readerAt C m k j c) (hs : s < c.rows.length) (ha : a ∈ sgn c.L) (hb : b ∈ sgn c.L) (q : Q (.int (nextN c s a b : Nat)) m) :
    CallF (afterP C) [.obj k, .int (s : Nat), dS [a], dS [b]] m Q := by
  obtain ⟨h1, h2, hne⟩ := hm
  refine ⟨[k, j], [.ins C (readerF c 1), spotsD c.L], [.obj 0, .int (s : Nat), dS [a], dS [b]], ⟨?_, rfl, fun i n e => ?_, rfl⟩, c, s, a, b, ok, hs, ha, hb, rfl, rfl, fun _ => ?_⟩
  · exact List.nodup_cons.mpr ⟨fun z => hne (List.mem_singleton.mp z), by simp⟩
  · match i, e with
    | 0, e => cases e; exact ⟨_, rfl, by rw [h1]; show _ = some (Ob.ins C (renKV _ _)); rw [readerF_ren]; rfl⟩
    | 1, e => cases e; exact ⟨_, rfl, by rw [h2]; show _ = some (Ob.dK (renKV _ _)); rw [spotsK_ren]; rfl⟩
    | i + 2, e => simp at e
  · have e : over (fr [k, j] m.length) [k, j] m [.ins C (readerF c 1), spotsD c.L] = m := by
      unfold over; unfold over; unfold over
      have e1 : Ob.ren (fr [k, j] m.length) (.ins C (readerF c 1)) = .ins C (readerF c j) := by show Ob.ins C (renKV _ _) = _; rw [readerF_ren]; rfl
      have e2 : Ob.ren (fr [k, j] m.length) (spotsD c.L) = spotsD c.L := by show Ob.dK (renKV _ _) = _; rw [spotsK_ren]; rfl
      rw [e1, e2, set_self h1, set_self h2]; simp
    rw [e]; exact q
theorem padOk_nat {n : Nat} (h : n ≤ 1000000) : PadOk (n : Int) = true := by
  unfold PadOk fitsSsize PySem.Builtin.Str.tooLong sizeLine
  simp; omega
theorem zip_pad {x y : List Nat} {n : Nat} (hx : x.length ≤ n) (hy : y.length ≤ n) : zipD ((Txt.ljustF (mkS x) (n : Int) 46).cps.toList.map fun c => D.str ⟨#[c]⟩) ((Txt.ljustF (mkS y) (n : Int) 46).cps.toList.map fun c => D.str ⟨#[c]⟩) =
    (List.range n).map fun i => .tup [dS [x.getD i 46], dS [y.getD i 46]] := by
  rw [mkS_ljust, mkS_ljust, mkS_items, mkS_items]
  apply List.ext_getElem?
  intro i
  unfold zipD
  rw [List.getElem?_zipWith, List.getElem?_map, List.getElem?_map, List.getElem?_map]
  by_cases hi : i < n
  · rw [pad_at x n i hi hx, pad_at y n i hi hy, List.getElem?_range hi]; rfl
  · rw [List.getElem?_eq_none (show (x ++ List.replicate (n - x.length) 46).length ≤ i by simp; omega), List.getElem?_eq_none (show (List.range n).length ≤ i by simp; omega)]; rfl
theorem getE_range {n i : Nat} {d : D} {f : Nat → D} (h : ((List.range n).map f)[i]? = some d) : i < n ∧ d = f i := by
  obtain ⟨a, h1, rfl⟩ := getE_map h
  have hi : i < n := by have := (List.getElem?_eq_some_iff.mp h1).1; simpa using this
  rw [List.getElem?_range hi] at h1
  cases h1; exact ⟨hi, rfl⟩
theorem dot_end : (("." : Str).cps.getD 0 0) = 46 := by decide +kernel

/-! ### what the laws' own helpers promise -/
def colsP : List D → List D → Prop := fun dl items => ∃ L : Nat, dl = [.int L] ∧ 1 ≤ L ∧ L ≤ 3 ∧ items = (colsN L).map dS
theorem len_colsP : ∀ dl v, colsP dl v → dl.length = 1 := by rintro dl v ⟨L, rfl, _⟩; rfl
theorem im_colsP : ∀ dl v, colsP dl v → imAll v = true := by rintro dl v ⟨L, _, _, _, rfl⟩; exact im_dS _
def compP : VSp := drawV Cmp.d (fun dl => ∃ L n : Nat, dl = [.int L, .int n] ∧ 1 ≤ L ∧ L ≤ 3 ∧ 1 ≤ n ∧ n ≤ 400) 7000 (fun dl c => c.Ok ∧ ∀ L n : Nat, dl = [.int L, .int n] → c.L = L ∧ c.rows.length = n)
theorem len_compP : ∀ dl ms R, compP dl ms R → dl.length = 3 := by rintro dl ms R ⟨cells, c, dl', rfl, _, _, _, ⟨L, n, rfl, _⟩, _⟩; rfl
def readP : List D → D → Prop := fun dl v => ∃ (c : Cmp) (x y : List Nat), c.Ok ∧ Wd c.L x ∧ Wd c.L y ∧ x.length ≤ 1000000 ∧ y.length ≤ 1000000 ∧ dl = [c.d, dS x, dS y] ∧ v = .int (readN c x y : Nat)
theorem len_readP : ∀ dl v, readP dl v → dl.length = 3 := by rintro dl v ⟨c, x, y, _, _, _, _, _, rfl, _⟩; rfl
theorem im_readP : ∀ dl v, readP dl v → v.im = true := by rintro dl v ⟨c, x, y, _, _, _, _, _, _, rfl⟩; rfl
def tellP : List D → D → Prop := fun dl v => ∃ (c : Cmp) (x y : List Nat), c.Ok ∧ Wd c.L x ∧ Wd c.L y ∧ x.length ≤ 1000000 ∧ y.length ≤ 1000000 ∧ dl = [c.d, dS x, dS y] ∧ v = .int (tellN c x y)
theorem len_tellP : ∀ dl v, tellP dl v → dl.length = 3 := by rintro dl v ⟨c, x, y, _, _, _, _, _, rfl, _⟩; rfl
theorem im_tellP : ∀ dl v, tellP dl v → v.im = true := by rintro dl v ⟨c, x, y, _, _, _, _, _, _, rfl⟩; rfl
def layerN (L : Nat) : Nat → List (List Nat)
  | 0 => [[]]
  | k + 1 => (layerN L k).flatMap fun w => (ltr L).map fun a => w ++ [a]
def wordsN (L n : Nat) : List (List Nat) := (List.range (n + 1)).flatMap (layerN L)
theorem ltr_len (L : Nat) : (ltr L).length ≤ 3 := by unfold ltr; simp; omega
theorem layer_len (L : Nat) : ∀ k, (layerN L k).length ≤ 3 ^ k
  | 0 => Nat.le_refl _
  | k + 1 => by
    unfold layerN
    rw [List.length_flatMap]
    simp only [List.length_map, List.map_const', List.sum_replicate_nat]
    rw [Nat.pow_succ]
    exact Nat.mul_le_mul (layer_len L k) (ltr_len L)
theorem layer_wd (L : Nat) : ∀ k, ∀ w ∈ layerN L k, Wd L w ∧ w.length = k
  | 0, w, h => by
    have : w = [] := by simpa [layerN] using h
    subst this; exact ⟨fun a (h : a ∈ []) => absurd h List.not_mem_nil, rfl⟩
  | k + 1, w, h => by
    unfold layerN at h
    obtain ⟨v, hv, h⟩ := List.mem_flatMap.mp h
    obtain ⟨a, ha, rfl⟩ := List.mem_map.mp h
    obtain ⟨h1, h2⟩ := layer_wd L k v hv
    refine ⟨fun b hb => ?_, by simp [h2]⟩
    rcases List.mem_append.mp hb with z | z
    · exact h1 b z
    · rw [List.mem_singleton.mp z]; exact ha
theorem words_wd {L n : Nat} {w : List Nat} (h : w ∈ wordsN L n) : Wd L w ∧ w.length ≤ n := by
  unfold wordsN at h
  obtain ⟨k, hk, h⟩ := List.mem_flatMap.mp h
  obtain ⟨h1, h2⟩ := layer_wd L k w h
  have := List.mem_range.mp hk
  exact ⟨h1, by omega⟩
theorem words_ne (L n : Nat) : wordsN L n ≠ [] := by
  have : ([] : List Nat) ∈ wordsN L n := List.mem_flatMap.mpr ⟨0, List.mem_range.mpr (by omega), by simp [layerN]⟩
  intro e; rw [e] at this; cases this
theorem words_succ (L n : Nat) : wordsN L (n + 1) = wordsN L n ++ layerN L (n + 1) := by
  unfold wordsN
  rw [List.range_succ, List.flatMap_append]; simp
theorem words_len (L : Nat) {n : Nat} (h : n ≤ 6) : (wordsN L n).length ≤ 6000 := by
  have key : ∀ n, (wordsN L n).length ≤ (n + 1) * 3 ^ n := by
    intro n
    induction n with
    | zero => simp [wordsN, layerN]
    | succ n ih =>
      rw [words_succ, List.length_append]
      have h2 := layer_len L (n + 1)
      have h3 : 3 ^ n ≤ 3 ^ (n + 1) := Nat.pow_le_pow_right (by decide) (by omega)
      have h4 : (n + 1) * 3 ^ n ≤ (n + 1) * 3 ^ (n + 1) := Nat.mul_le_mul_left _ h3
      have h5 : (n + 1 + 1) * 3 ^ (n + 1) = (n + 1) * 3 ^ (n + 1) + 3 ^ (n + 1) := by rw [Nat.add_mul (n + 1) 1]; simp
      omega
  have h1 := key n
  have h2 : 3 ^ n ≤ 3 ^ 6 := Nat.pow_le_pow_right (by decide) h
  have h3 : (n + 1) * 3 ^ n ≤ 7 * 3 ^ 6 := Nat.mul_le_mul (by omega) h2
  have h4 : 7 * 3 ^ 6 = 5103 := rfl
  omega
def wordsP : List D → List D → Prop := fun dl items => ∃ L n : Nat, dl = [.int L, .int n] ∧ L ≤ 3 ∧ n ≤ 6 ∧ items = (wordsN L n).map dS
theorem len_wordsP : ∀ dl v, wordsP dl v → dl.length = 2 := by rintro dl v ⟨L, n, rfl, _⟩; rfl
theorem im_wordsP : ∀ dl v, wordsP dl v → imAll v = true := by rintro dl v ⟨L, n, _, _, _, rfl⟩; exact im_dS _
def wordP : VSp := drawV (fun l : List Nat => dS l) (fun dl => ∃ L n : Nat, dl = [.int L, .int n] ∧ 1 ≤ L ∧ L ≤ 3 ∧ n ≤ 1000) 1002 (fun dl l => ∀ L n : Nat, dl = [.int L, .int n] → Wd L l ∧ l.length ≤ n)
theorem len_wordP : ∀ dl ms R, wordP dl ms R → dl.length = 3 := by rintro dl ms R ⟨cells, c, dl', rfl, _, _, _, ⟨L, n, rfl, _⟩, _⟩; rfl
theorem sign_at (x : List Nat) (i : Nat) : Txt.ljustF (cutS (mkS x) (some (i : Int)) (some ((i : Int) + 1))) 1 (("." : Str).cps.getD 0 0) = mkS [x.getD i 46] := by
  rw [dot_end, mkS_cut, show ((i : Int) + 1) = ((i + 1 : Nat) : Int) by omega, cutN_both, show (1 : Int) = ((1 : Nat) : Int) from rfl, mkS_ljust]
  congr 1
  rw [show i + 1 - i = 1 by omega, List.getD_eq_getElem?_getD]
  by_cases h : i < x.length
  · rw [List.getElem?_eq_getElem h, List.drop_eq_getElem_cons h]; rfl
  · rw [List.getElem?_eq_none (by omega), List.drop_eq_nil_of_le (by omega)]; rfl
theorem before_ne {α : Type} {l : List α} (nd : l.Nodup) {j : Nat} {y : α} (h : l[j]? = some y) : ∀ (i : Nat) (z : α), i < j → l[i]? = some z → z ≠ y := fun i z hi hz e => by
  subst e
  obtain ⟨l1, e1⟩ := List.getElem?_eq_some_iff.mp h
  obtain ⟨l2, e2⟩ := List.getElem?_eq_some_iff.mp hz
  have := (List.getElem_inj nd).mp (e1.trans e2.symm)
  omega
theorem nodup_mkS {l : List (List Nat)} (nd : l.Nodup) : (l.map mkS).Nodup := by
  unfold List.Nodup
  rw [List.pairwise_map]
  exact List.Pairwise.imp (fun h e => h (mkS_inj e)) nd
theorem flatMap_take_len {α β : Type} {l : List α} {j : Nat} {a : α} (f : α → List β) (h : l[j]? = some a) : ((l.take j).flatMap f).length + (f a).length ≤ (l.flatMap f).length := by
  rw [← List.length_append, ← flatMap_take_succ f h]
  conv => rhs; rw [← List.take_append_drop (j + 1) l, List.flatMap_append, List.length_append]
  omega
theorem abc_cut {L : Nat} (h : L ≤ 3) : cutS "abc" none (some (L : Int)) = mkS (ltr L) := by
  have : L = 0 ∨ L = 1 ∨ L = 2 ∨ L = 3 := by omega
  rcases this with rfl | rfl | rfl | rfl <;> decide +kernel
/-- a comparison put together -/
theorem mk_cmp {L n : Nat} (h1 : 1 ≤ L) (h3 : L ≤ 3) (n1 : 1 ≤ n) (n4 : n ≤ 400) {rs : List (List Nat)} {vs : List Int} (hl : rs.length = n) (hr : ∀ r ∈ rs, r.length = (L + 1) * (L + 1) - 1 ∧ ∀ k ∈ r, k < n) (hv : vs.length = n) (hm : ∀ v ∈ vs, -1 ≤ v ∧ v ≤ 1) : (Cmp.mk L rs vs).Ok where
  l1 := h1
  l3 := h3
  ne := fun e => by
    have : rs = [] := e
    rw [this] at hl; simp at hl; omega
  wid := fun r h => (hr r h).1
  in_ := fun r h k hk => by show k < rs.length; rw [hl]; exact (hr r h).2 k hk
  mkl := by show vs.length = rs.length; omega
  sz := by show rs.length ≤ 4096; omega
  mr := hm
theorem sq15 {L : Nat} (h3 : L ≤ 3) : (L + 1) * (L + 1) - 1 ≤ 15 := by
  have : (L + 1) * (L + 1) ≤ 4 * 4 := Nat.mul_le_mul (by omega) (by omega)
  omega
theorem toNat_map {bs : List Int} (h : ∀ k ∈ bs, 0 ≤ k) : (bs.map Int.toNat).map (fun n => D.int (n : Nat)) = bs.map D.int := by
  rw [List.map_map]
  refine List.map_congr_left fun k hk => ?_
  show D.int ((k.toNat : Nat) : Int) = D.int k
  rw [Int.toNat_of_nonneg (h k hk)]
theorem all_of {α β : Type} {xs : List α} {bs : List β} {Pr : α → β → Prop} (hl : bs.length = xs.length) (h : ∀ (i : Nat) a b, xs[i]? = some a → bs[i]? = some b → Pr a b) : ∀ b ∈ bs, ∃ a ∈ xs, Pr a b := fun b hb => by
  obtain ⟨i, hi, e⟩ := List.getElem_of_mem hb
  have hx : i < xs.length := by omega
  exact ⟨xs[i], List.getElem_mem hx, h i _ _ (List.getElem?_eq_getElem hx) (by rw [List.getElem?_eq_getElem hi, e])⟩
theorem gJ {l : List Ob} {bs : List Nat} : (l ++ [Ob.lst (bs.map fun a => dS [a])])[l.length]? = some (.lst ((bs.map fun a => mkS [a]).map D.str)) := by
  rw [gL, List.map_map]; rfl
theorem join_ones (bs : List Nat) : Txt.join (mkS []) (bs.map fun a => mkS [a]) = mkS bs := by
  have hf : ∀ l : List Nat, (l.map fun a => [a]).flatten = l := by
    intro l
    induction l with
    | nil => rfl
    | cons a r ih => rw [List.map_cons, List.flatten_cons, ih]; rfl
  have h := mkS_join (bs.map fun a => [a])
  rw [List.map_map, hf] at h
  exact h
theorem ltr_ne_nil {L : Nat} (h : 1 ≤ L) : ltr L ≠ [] := by
  unfold ltr
  intro e
  have := congrArg List.length e
  simp at this; omega
end VL

namespace VL
open PySem PySem.Spec PyProof.Rows L2

/-! ## repr of lists of verdicts -/
theorem py_ints {ms : List Ob} : ∀ vs : List Int, PyAll ms (vs.map D.int) (vs.map PyData.int)
  | [] => .nil
  | v :: r => .cons (.int v) (py_ints r)
theorem sh_ints : ∀ (vs : List Int), (∀ v ∈ vs, -1 ≤ v ∧ v ≤ 1) → PyData.showableAll (vs.map PyData.int) = true ∧ PyData.hasDictAll (vs.map PyData.int) = false ∧ PyData.depthAll (vs.map PyData.int) = 0 ∧ PyData.leavesShortAll 8 (vs.map PyData.int) = true ∧ PyData.weightAll (vs.map PyData.int) ≤ 2 * vs.length
  | [], _ => ⟨rfl, rfl, rfl, rfl, Nat.le_refl _⟩
  | v :: r, h => by
    obtain ⟨a, b, c, d, e⟩ := sh_ints r fun x hx => h x (List.mem_cons_of_mem _ hx)
    have hv := h v List.mem_cons_self
    have k1 : PyData.showable (.int v) = true ∧ PyData.leavesShort 8 (.int v) = true ∧ PyData.weight (.int v) ≤ 1 := by
      have : v = -1 ∨ v = 0 ∨ v = 1 := by omega
      rcases this with rfl | rfl | rfl <;> exact ⟨by decide +kernel, by decide +kernel, by decide +kernel⟩
    refine ⟨?_, ?_, ?_, ?_, ?_⟩
    · show (PyData.showable (.int v) && PyData.showableAll (r.map PyData.int)) = true
      rw [k1.1, a]; rfl
    · show (PyData.hasDict (.int v) || PyData.hasDictAll (r.map PyData.int)) = false
      rw [b]; rfl
    · show max (PyData.depth (.int v)) (PyData.depthAll (r.map PyData.int)) = 0
      rw [c]; rfl
    · show (PyData.leavesShort 8 (.int v) && PyData.leavesShortAll 8 (r.map PyData.int)) = true
      rw [k1.2.1, d]; rfl
    · show PyData.weight (.int v) + 1 + PyData.weightAll (r.map PyData.int) ≤ 2 * (r.length + 1)
      have := k1.2.2
      omega
section
variable {X : Cx} {B : Bs} {ms : List Ob} {Q : D → List Ob → Prop}
def shownI (vs : List Int) : Str := (PyData.list (vs.map PyData.int)).shown
theorem wc_reprV {k : Nat} {vs : List Int} (hgd : X.A.guards = some []) (hu : X.A.units + 70 < cLine) (hk : ms[k]? = some (.lst (vs.map D.int))) (hv : ∀ v ∈ vs, -1 ≤ v ∧ v ≤ 1) (hl : vs.length ≤ 100000) (q : Q (.str (shownI vs)) ms) : WC X B ms (.builtin "repr") [.obj k] Q := by
  obtain ⟨a, b, c, d, e⟩ := sh_ints vs hv
  refine wc_repr hgd hu (.lst hk (py_ints vs)) (by show PyData.showableAll _ = true; exact a) (by show PyData.hasDictAll _ = false; exact b) (by show PyData.depthAll _ + 1 ≤ 64; rw [c]; decide) ?_ q
  have h := PyData.shown_le 8 (by decide) (.list (vs.map PyData.int)) (by show PyData.leavesShortAll 8 _ = true; exact d)
  have hw : (PyData.list (vs.map PyData.int)).weight ≤ 200000 := by show PyData.weightAll _ ≤ _; omega
  have : (8 + 2) * (PyData.list (vs.map PyData.int)).weight + 8 ≤ 2000008 := by omega
  exact Nat.le_trans h (Nat.le_trans this (by decide))
end
theorem hu70 {k : Nat} {A : Around} (hr : Room k A) : A.units + 70 < cLine := by have := hr.un; omega

/-! ## pairs of words -/
def pD (p : List Nat × List Nat) : D := .tup [dS p.1, dS p.2]
def PairOk (L : Nat) (p : List Nat × List Nat) : Prop := Wd L p.1 ∧ Wd L p.2 ∧ p.1.length ≤ 10000 ∧ p.2.length ≤ 10000
theorem im_pD (l : List (List Nat × List Nat)) : imAll (l.map pD) = true := imAll_iff.mpr fun d hd => by
  obtain ⟨i, _, rfl⟩ := List.mem_map.mp hd; rfl
theorem Wd.drop {L : Nat} {x : List Nat} (h : Wd L x) (n : Nat) : Wd L (x.drop n) := fun a ha => h a (List.mem_of_mem_drop ha)
theorem Wd.take {L : Nat} {x : List Nat} (h : Wd L x) (n : Nat) : Wd L (x.take n) := fun a ha => h a (List.mem_of_mem_take ha)
theorem Wd.app {L : Nat} {x y : List Nat} (h : Wd L x) (h2 : Wd L y) : Wd L (x ++ y) := fun a ha => (List.mem_append.mp ha).elim (h a) (h2 a)
theorem Wd.a {L : Nat} (h : 1 ≤ L) : Wd L [97] := fun a ha => by
  rw [List.mem_singleton.mp ha]
  unfold ltr
  obtain ⟨k, rfl⟩ : ∃ k, L = k + 1 := ⟨L - 1, by omega⟩
  simp
theorem Wd.init {L : Nat} {x : List Nat} (h : Wd L x) : Wd L x.dropLast := fun a ha => h a (List.dropLast_subset _ ha)
theorem Wd.rep {L : Nat} {x : List Nat} (h : Wd L x) (n : Nat) : Wd L (List.replicate n x).flatten := fun a ha => by
  obtain ⟨l, hl, ha⟩ := List.mem_flatten.mp ha
  rw [(List.mem_replicate.mp hl).2] at ha
  exact h a ha
theorem rep_len (n : Nat) (x : List Nat) : (List.replicate n x).flatten.length = n * x.length := by
  rw [List.length_flatten, List.map_replicate, List.sum_replicate_nat]
theorem dk_cl (cells : List Int) (c : Int) {n : Nat} (h : 1 ≤ n) : (dk cells c).all (Ob.cl n) = true := by
  show (clAll n (cells.map D.int) && (clAll n [.obj 0, .int c] && true)) = true
  rw [im_clA (im_ints cells)]
  show (decide (0 < n) && true && true) = true
  simp; omega
/-- the state within a turn -/
def MidP (ns : List Int) (i : Nat) (cm : Cmp) (b : Int) (n : Nat) (ds : List (Option D)) (m : List Ob) : Prop :=
  ∃ (cells : List Int) (c : Int) (R : List Ob) (j : Nat) (ps : List (List Nat × List Nat)) (o6 o7 o8 o9 o10 o11 : Option D), DkOk cells c ∧ c ≤ b ∧ ds = [some (.rol (ns.map D.int)), some (.obj 1), some (.int (i : Nat)), some (.int (cm.L : Nat)), some cm.d, some (.obj (j + 2)), o6, o7, o8, o9, o10, o11] ∧ m = dk cells c ++ R ∧ R[j]? = some (.lst (ps.map pD)) ∧ (∀ p ∈ ps, PairOk cm.L p) ∧ ps.length ≤ n
theorem mulOk_nat {x : List Nat} {n : Nat} (hx : x.length ≤ 10000) (h0 : 1 ≤ n) (h : n ≤ 1000) : MulOk (mkS x) (n : Int) := by
  refine ⟨?_, fun _ _ => ?_, fun _ _ => ?_⟩
  · simp; omega
  · rw [mkS_len]
    have : (10000 : Int) ≤ (2 ^ 63 - 1) / (n : Int) := by
      rw [Int.le_ediv_iff_mul_le (by omega)]
      omega
    omega
  · rw [mkS_len, Int.toNat_natCast]
    unfold PySem.Builtin.Str.tooLong sizeLine
    have : x.length * n ≤ 10000 * 1000 := Nat.mul_le_mul hx h
    simp; omega
def MidW (ns : List Int) (i : Nat) (cm : Cmp) (b : Int) (n : Nat) (w : List Nat) (k : Option D) (ds : List (Option D)) (m : List Ob) : Prop :=
  ∃ (cells : List Int) (c : Int) (R : List Ob) (j : Nat) (ps : List (List Nat × List Nat)) (v : List Nat) (o9 o10 o11 : Option D), DkOk cells c ∧ c ≤ b ∧ ds = [some (.rol (ns.map D.int)), some (.obj 1), some (.int (i : Nat)), some (.int (cm.L : Nat)), some cm.d, some (.obj (j + 2)), some (dS w), k, some (dS v), o9, o10, o11] ∧ m = dk cells c ++ R ∧ R[j]? = some (.lst (ps.map pD)) ∧ (∀ p ∈ ps, PairOk cm.L p) ∧ ps.length ≤ n ∧ Wd cm.L v ∧ v.length ≤ 10000
section
variable {X : Cx} {B : Bs} {ms : List Ob} {Q : D → List Ob → Prop}
theorem wc_reprT {α : Type} (xs : List α) (t : α → Int) {k : Nat} (hgd : X.A.guards = some []) (hu : X.A.units + 70 < cLine) (hk : ms[k]? = some (.lst (xs.map fun a => .int (t a)))) (hv : ∀ a ∈ xs, -1 ≤ t a ∧ t a ≤ 1) (hl : xs.length ≤ 100000) (q : Q (.str (shownI (xs.map t))) ms) : WC X B ms (.builtin "repr") [.obj k] Q :=
  wc_reprV (vs := xs.map t) hgd hu (by rw [hk, List.map_map]; rfl) (fun v hv' => by obtain ⟨a, ha, rfl⟩ := List.mem_map.mp hv'; exact hv a ha) (by rw [List.length_map]; exact hl) q
end
theorem im3 (c : Cmp) (x y : List Nat) : imAll [c.d, dS x, dS y] = true := by
  unfold imAll; rw [Cmp.im]; rfl
theorem Cmp.Ok.mr' {c : Cmp} (ok : c.Ok) {x y : List Nat} (hx : Wd c.L x) (hy : Wd c.L y) : -1 ≤ tellN c x y ∧ tellN c x y ≤ 1 := ok.mr _ (List.mem_of_getElem? (ok.mark hx hy))
end VL

namespace VL
open PySem PySem.Spec PyProof.Rows L2

/-! ## a, b = a text of two signs -/
def gStr2 (t : TGs) : TG := fun v σ H Q => ∃ a b, v = .str ⟨#[a, b]⟩ ∧ t [.str ⟨#[a]⟩, .str ⟨#[b]⟩] σ H Q
theorem unpack_str2 {prog : Program} {w : World} {A : Around} {E : Value → Shared → Prop} {s : Shared} {a b : Nat} {tk : Tok} {Q : List Value → Shared → Prop} (hh : A.handled = none)
    (hQ : ∀ h' t' u1 u2, (∀ c o, s.heap.get? c = some o → h'.get? c = some o) → Q [.str ⟨#[a]⟩ u1, .str ⟨#[b]⟩ u2] { s with heap := h', toks := t' }) : wpAny (model prog w) A (unpackItems (.str ⟨#[a, b]⟩ tk) 2 none) Q E s := by
  unfold unpackItems
  refine wpAny_bind ?_
  unfold notIterableAtAll
  refine wpAny_bind (wpAny_specialOf (typeIs_str s _ tk) F.slot_str_iter.lookup ?_)
  refine wpAny_pure ?_
  simp only [Bool.false_eq_true, if_false]
  refine wpAny_bind (wpAny_holding (wpAny_pyIter_str fun o St WW st0 => ?_))
  have W := WW A hh
  have old : ∀ {c : Addr} {ob : Obj}, s.heap.get? c = some ob → c ≠ s.heap.objs.size := fun e => Nat.ne_of_lt (Heap.lt_size e)
  refine wpAny_bind (wpAny_holding ?_)
  show wpAny _ _ (pyNext _ >>= _) _ _ _
  refine wpAny_bind (W.item 0 _ _ _ (by show 0 < 2; decide) st0 fun v1 h1 t1 p1 st1 k1 => ?_)
  obtain ⟨c1, u1, e1, rfl⟩ := p1
  refine wpAny_bind (wpAny_holding ?_)
  show wpAny _ _ (pyNext _ >>= _) _ _ _
  refine wpAny_bind (W.item 1 _ _ _ (by show 1 < 2; decide) st1 fun v2 h2 t2 p2 st2 k2 => ?_)
  obtain ⟨c2, u2, e2, rfl⟩ := p2
  refine wpAny_bind (wpAny_holding ?_)
  show wpAny _ _ (pure []) _ _ _
  refine wpAny_pure (wpAny_pure (wpAny_pure ?_))
  rw [if_neg (by simp)]
  refine wpAny_bind (wpAny_holding (W.done _ _ _ st2 fun h3 t3 k3 => ?_))
  simp only [Option.isSome_none, Bool.false_eq_true, if_false]
  refine wpAny_pure ?_
  cases e1; cases e2
  refine hQ h3 t3 u1 u2 fun c ob e => ?_
  have hc : c ∉ [s.heap.objs.size] := by simpa using old e
  exact k3 c ob hc (k2 c ob hc (k1 c ob hc (Heap.get?_push_of_some _ e)))
theorem pg_str2 {X : Cx} {pos : Pos} {es : List Expr} {k : Nat} {t : TGs} (hc : X.calm = true) (h : PGs X es t)
    (hn : (assignEach es X.env).length = 2 := by rfl) (hst : (assignEach es X.env).findIdx? (·.1) = none := by rfl) : PG X (.Tuple es k pos) (gStr2 t) := by
  refine ⟨fun pins s σ H v u Q I r hw => ?_⟩
  obtain ⟨a, b, rfl, hw⟩ := hw
  obtain ⟨tk, rfl⟩ := r
  rw [PyProof.Rows.assign_Tuple]
  refine wpAny_bind (wpAny_standAt ?_)
  unfold unpack
  rw [hn, hst]
  refine wpAny_bind (wpAny_holding (unpack_str2 (I.ok.hd hc) fun h' t' u1 u2 hk => ?_))
  exact h.run pins _ σ H [.str ⟨#[a]⟩, .str ⟨#[b]⟩] _ Q (I.kept (t' := t') hk) (.cons (show RelV (.str ⟨#[a]⟩) (.str ⟨#[a]⟩ u1) from ⟨u1, rfl⟩) (.cons (show RelV (.str ⟨#[b]⟩) (.str ⟨#[b]⟩ u2) from ⟨u2, rfl⟩) .nil)) hw
/-- as a statement's target; as a comprehension's -/
theorem wg_str2 {X : Cx} {B : Bs} {ds : List (Option D)} {ms : List Ob} {pos : Pos} {es : List Expr} {k : Nat} {a b : Nat} {N : List (Option D) → List Ob → Prop} (hc : X.calm = true) (hn : noStar es = true) (hl : (assignEach es X.env).length = 2) (h : WGs X B ds ms es [dS [a], dS [b]] N)
    (hst : (assignEach es X.env).findIdx? (·.1) = none := by rfl) : WG X B ds ms (.Tuple es k pos) (dS [a, b]) N := .mk fun σ H θ v S L r => by
  cases rep_str r
  refine can_pg (pg_str2 hc pgs_can hl hst) ⟨a, b, rfl, ?_⟩
  exact WGs.can es (noStar_each es hn) h σ H θ _ S L (mk_cons mk_str (mk_cons mk_str mk_nil))
def appS2 (i j : Nat) : D → List (Option D) → Option (List (Option D))
  | .str ⟨⟨[a, b]⟩⟩, ds => some ((ds.set i (some (dS [a]))).set j (some (dS [b])))
  | _, _ => none
theorem tg_pairS {X : Cx} {scope : Scope} {vs : List Nat} (i j : Nat) {x y : Str} {p1 p2 p3 : Pos} {k : Nat} (hc : X.calm = true) (hN : X.N.Nodup) (hi : X.N[i]? = some x) (hj : X.N[j]? = some y) (hx : scope.names.lookup x = some .local) (hy : scope.names.lookup y = some .local) (hvi : i ∈ vs) (hvj : j ∈ vs) :
    TgLc X scope vs (.Tuple [.Name x p1, .Name y p2] k p3) (gStr2 (gCons (gName i) (gCons (gName j) gNil))) (appS2 i j) where
  pg := fun s H C cl fp => pg_str2 (X := X.blk s H scope (compEnvC scope cl C X.env) fp) hc (pgs_cons (pg_name hN hi (.inl (lookup_relabel_local hx)) (.inr (lookup_relabel_local hx))) (pgs_cons (pg_name hN hj (.inl (lookup_relabel_local hy)) (.inr (lookup_relabel_local hy))) pgs_nil))
  go := fun σ H θ v d ds ds' e r L => by
    have hd : ∃ a b, d = dS [a, b] ∧ ds' = (ds.set i (some (dS [a]))).set j (some (dS [b])) := by
      unfold appS2 at e
      split at e
      · cases e; exact ⟨_, _, rfl, rfl⟩
      · cases e
    obtain ⟨a, b, rfl, rfl⟩ := hd
    cases rep_str r
    refine ⟨_, fun Q q => ⟨a, b, rfl, _, _, rfl, _, _, rfl, rfl, q⟩, (L.set mk_str i).set mk_str j, ?_⟩
    rw [wipe_set hvj, wipe_set hvi]
    exact wipe_wipe fun _ h => h
end VL

namespace VL
open PySem PySem.Spec PyProof.Rows L2

section
variable {X : Cx} {B : Bs} {ds : List (Option D)} {ms : List Ob} {Q : D → List Ob → Prop} {a b c : Expr} {pos : Pos}
/-! ## names of built-in types, isinstance -/
theorem we_ty {x : Str} {T : String} (hm : X.mg x = none) (hg : Gl X x) (hv : bootBuiltins x = some (.type T)) (q : Q (.ty T) ms) (hn : x ≠ "__name__" := by decide) (hd : (x == ("__debug__" : Str)) = false := by decide) : WE X B ds ms (.Name x pos) Q :=
  WE.pe (pe_bltn (v := .ty T) hg hm hv rfl hn hd) fun σ H θ S L => pv_same S mk_ty q
def tyN (ms : List Ob) : D → Option String
  | .non => some "NoneType"
  | .bl _ => some "bool"
  | .int _ => some "int"
  | .str _ => some "str"
  | .tup _ => some "tuple"
  | .rol _ => some "list"
  | .rod _ _ => some "dict"
  | .obj k => match ms[k]? with
    | some (.lst _) => some "list"
    | some (.dK _) => some "dict"
    | some (.dT _) => some "dict"
    | _ => none
  | _ => none
theorem tyN_ok {K : PySem.W.Frag} {θ : List Addr} {H : Hp} (S : Sat K B θ ms H) : ∀ {d : D} {v : V} {t : String}, Rep K θ H d v → tyN ms d = some t → TyX K H v (.type t)
  | .non, _, _, r, e => by cases e; rw [rep_non r]; exact .base .non
  | .bl _, _, _, r, e => by cases e; rw [rep_bl r]; exact .base (.bl _)
  | .int _, _, _, r, e => by cases e; rw [rep_int r]; exact .base (.int _)
  | .str _, _, _, r, e => by cases e; rw [rep_str r]; exact .base (.str _)
  | .tup _, _, _, r, e => by
    cases e
    obtain ⟨a, vs, rfl, s, _⟩ := rep_tup r
    rcases s with (s | ⟨o, s⟩) | ⟨o, its, n, h1, h2, _⟩
    · exact .base (.tup s)
    · exact .fTuple s
    · exact .kTuple h1 h2
  | .rol _, _, _, r, e => by
    cases e
    obtain ⟨a, vs, rfl, s, _⟩ := rep_rol r
    rcases s with ⟨o, s⟩ | ⟨o, its, n, h1, h2, _⟩
    · exact .base (.frz s)
    · exact .kList h1 h2
  | .rod _ _, _, _, r, e => by
    cases e
    obtain ⟨a, vs, rfl, ⟨o, s⟩, _⟩ := rep_rod r
    exact .fDict s
  | .obj k, _, _, r, e => by
    obtain ⟨a, e1, rfl⟩ := rep_obj r
    cases q : ms[k]? with
    | none => simp [tyN, q] at e
    | some ob =>
      have ho := S.obs k ob a q e1
      cases ob with
      | lst ds => simp [tyN, q] at e; subst e; obtain ⟨vs, s, _⟩ := ho; exact .base (.lst s)
      | dK ds => simp [tyN, q] at e; subst e; obtain ⟨vs, s, _⟩ := ho; exact .base (.dK s)
      | dT ds => simp [tyN, q] at e; subst e; obtain ⟨vs, s, _⟩ := ho; exact .base (.dT s)
      | ins C fs => simp [tyN, q] at e
  | .ref _, _, _, _, e => by simp [tyN] at e
  | .ty _, _, _, _, e => by simp [tyN] at e
theorem wc_isi {d : D} {t T : String} {k : Bool} (ht : tyN ms d = some t) (hk : kitB t T = some k) (q : Q (.bl k) ms) : WC X B ms (.builtin "isinstance") [d, .ty T] Q := WC.of call_isi fun H θ vs S r0 => by
  obtain ⟨v, w, rfl, r1, r2⟩ := reps2 r0
  rw [rep_ty r2]
  exact ⟨v, .ty T, .type t, .type T, k, rfl, .ty T, tyN_ok S r1 ht, kit_ty hk, pv_same S mk_bl q⟩
/-! ## and, or as values -/
theorem we_and1 (h : WE X B ds ms a Q) : WE X B ds ms (.BoolOp .And [a] pos) Q := WE.pe (pe_one pe_can) fun σ H θ S L => h σ H θ S L
theorem we_or1 (h : WE X B ds ms a Q) : WE X B ds ms (.BoolOp .Or [a] pos) Q := WE.pe (pe_one pe_can) fun σ H θ S L => h σ H θ S L
theorem we_and2 {rest : List Expr} (h : WE X B ds ms a fun d m => ∃ k, d = .bl k ∧ (k = true → WE X B ds m (.BoolOp .And (b :: rest) pos) Q) ∧ (k = false → Q (.bl false) m)) : WE X B ds ms (.BoolOp .And (a :: b :: rest) pos) Q :=
  WE.pe (pe_and pe_can pe_can) fun σ H θ S L => h.bind S L fun d m v H1 more ⟨k, e, h1, h2⟩ r im S1 L1 => by
    subst e
    refine ⟨k, rep_bl r, ?_⟩
    cases k with
    | true => rw [if_pos rfl]; exact ((h1 rfl) σ H1 _ S1 L1).mono fun v H2 z => z.trans im
    | false => rw [if_neg (by decide)]; exact PV.trans im (pv_same S1 mk_bl (h2 rfl))
theorem we_or2 {rest : List Expr} (h : WE X B ds ms a fun d m => ∃ k, d = .bl k ∧ (k = false → WE X B ds m (.BoolOp .Or (b :: rest) pos) Q) ∧ (k = true → Q (.bl true) m)) : WE X B ds ms (.BoolOp .Or (a :: b :: rest) pos) Q :=
  WE.pe (pe_or pe_can pe_can) fun σ H θ S L => h.bind S L fun d m v H1 more ⟨k, e, h1, h2⟩ r im S1 L1 => by
    subst e
    refine ⟨k, rep_bl r, ?_⟩
    cases k with
    | false => rw [if_neg (by decide)]; exact ((h1 rfl) σ H1 _ S1 L1).mono fun v H2 z => z.trans im
    | true => rw [if_pos rfl]; exact PV.trans im (pv_same S1 mk_bl (h2 rfl))
/-- a op b op' c -/
theorem we_chain {op op' : CmpOp} (h : WE X B ds ms a fun d m => WE X B ds m b fun e m2 => WO X B m2 (compareOp op) d e fun r m3 => ∃ k, r = .bl k ∧ (k = true → WE X B ds m3 c fun f m4 => WO X B m4 (compareOp op') e f Q) ∧ (k = false → Q (.bl false) m3))
    (hm : lastMarks [op, op'] [b, c] = false := by with_unfolding_all rfl) : WE X B ds ms (.Compare a [op, op'] [b, c] pos) Q :=
  WE.pe (pe_chain or_can or_can pe_can pe_can pe_can hm) fun σ H θ S L => h.bind S L fun d m v H1 more q1 r1 im1 S1 L1 => q1.bind S1 L1 fun e m2 w H2 more2 q2 r2 im2 S2 L2 =>
    (q2 H2 _ v w S2 (Rep.mono (Le.app _ _) im2 _ _ r1) r2).mono fun z H3 ⟨d3, m3, more3, r3, im3, S3, k, e3, g1, g2⟩ => by
      subst e3
      refine ⟨k, rep_bl r3, ?_⟩
      cases k with
      | true =>
        rw [if_pos rfl]
        exact (g1 rfl).bind S3 (L2.mono (Le.app _ _) im3) fun f m4 u H4 more4 q4 r4 im4 S4 L4 =>
          (q4 H4 _ w u S4 (Rep.mono (Le.app _ _) im4 _ _ (Rep.mono (Le.app _ _) im3 _ _ r2)) r4).mono fun z H5 hz => (((hz.trans im4).trans im3).trans im2).trans im1
      | false =>
        rw [if_neg (by decide)]
        exact PV.trans im1 (PV.trans im2 (PV.trans im3 (pv_same S3 mk_bl (g2 rfl))))
/-- the same as a test -/
theorem wt_chain {Q : Bool → List Ob → Prop} {op op' : CmpOp} (h : WE X B ds ms a fun d m => WE X B ds m b fun e m2 => WO X B m2 (compareOp op) d e fun r m3 => ∃ k, r = .bl k ∧ (k = true → WE X B ds m3 c fun f m4 => WO X B m4 (compareOp op') e f fun r m5 => ∃ k, r = .bl k ∧ Q k m5) ∧ (k = false → Q false m3))
    (hm : lastMarks [op, op'] [b, c] = false := by with_unfolding_all rfl) : WT X B ds ms (.Compare a [op, op'] [b, c] pos) Q :=
  WT.pt (pt_chain or_can or_can pe_can pe_can pe_can hm) fun σ H θ S L => h.bind S L fun d m v H1 more q1 r1 im1 S1 L1 => q1.bind S1 L1 fun e m2 w H2 more2 q2 r2 im2 S2 L2 =>
    (q2 H2 _ v w S2 (Rep.mono (Le.app _ _) im2 _ _ r1) r2).mono fun z H3 ⟨d3, m3, more3, r3, im3, S3, k, e3, g1, g2⟩ => by
      subst e3
      refine ⟨k, rep_bl r3, ?_⟩
      cases k with
      | true =>
        rw [if_pos rfl]
        exact (g1 rfl).bind S3 (L2.mono (Le.app _ _) im3) fun f m4 u H4 more4 q4 r4 im4 S4 L4 =>
          (q4 H4 _ w u S4 (Rep.mono (Le.app _ _) im4 _ _ (Rep.mono (Le.app _ _) im3 _ _ r2)) r4).mono fun z H5 ⟨d5, m5, more5, r5, im5, S5, k, e5, q5⟩ => by
            subst e5
            exact ⟨k, rep_bl r5, PT'.trans im1 (PT'.trans im2 (PT'.trans im3 (PT'.trans im4 ⟨m5, more5, im5, S5, q5⟩)))⟩
      | false =>
        rw [if_neg (by decide)]
        exact ⟨false, rfl, PT'.trans im1 (PT'.trans im2 (PT'.trans im3 (pt_same S3 (g2 rfl))))⟩
/-! ## beside nothing -/
def isNonD : D → Bool
  | .non => true
  | _ => false
theorem isNon_ok {K : PySem.W.Frag} {θ : List Addr} {H : Hp} : ∀ {d : D} {v : V}, Rep K θ H d v → decide (v = V.non) = isNonD d
  | .non, _, r => by rw [rep_non r]; rfl
  | .bl _, _, r => by rw [rep_bl r]; rfl
  | .int _, _, r => by rw [rep_int r]; rfl
  | .str _, _, r => by rw [rep_str r]; rfl
  | .ref _, _, r => by rw [rep_ref r]; rfl
  | .ty _, _, r => by rw [rep_ty r]; rfl
  | .tup _, _, r => by obtain ⟨_, _, rfl, _⟩ := rep_tup r; rfl
  | .rol _, _, r => by obtain ⟨_, _, rfl, _⟩ := rep_rol r; rfl
  | .rod _ _, _, r => by obtain ⟨_, _, rfl, _⟩ := rep_rod r; rfl
  | .obj _, _, r => by obtain ⟨_, _, rfl⟩ := rep_obj r; rfl
theorem wo_isN {d : D} (q : Q (.bl (isNonD d)) ms) : WO X B ms (compareOp .Is) d .non Q := WO.of op_isN fun H θ x y S r1 r2 => ⟨rep_non r2, by rw [isNon_ok r1]; exact pv_same S mk_bl q⟩
theorem wo_notN {d : D} (q : Q (.bl (!isNonD d)) ms) : WO X B ms (compareOp .IsNot) d .non Q := WO.of op_notN fun H θ x y S r1 r2 => ⟨rep_non r2, by rw [isNon_ok r1]; exact pv_same S mk_bl q⟩
theorem vals_size {xs : List V} {its : List Value} (r : Vals xs its) : its.toArray.size = xs.length := by simp [r.length]
def rEqT0 (K : PySem.W.Frag) : R2 := fun x y H Q => ∃ a b xs, x = .ref a ∧ y = .ref b ∧ SqT K H a xs ∧ SqT K H b [] ∧ Q (.bl xs.isEmpty) H
theorem op_eqT0 (hu : X.A.units < cLine) : OpR X (compareOp .Eq) (rEqT0 X.K) := by
  intro pins s σ H x y v u Q I rx ry h
  obtain ⟨a, b, xs, rfl, rfl, ha, hb, q⟩ := h
  cases rx
  cases ry
  obtain ⟨its, r1, p1, _⟩ := I.tuple ha
  obtain ⟨its2, r2, p2, _⟩ := I.tuple hb
  have z2 : its2 = [] := by cases r2; rfl
  subst z2
  refine SeqAt.eq_tupleAt (e := fun _ => true) p1 p2 hu (fun j _ h2 => absurd h2 (by simp)) ⟨.bl _, H, I, rfl, ?_⟩
  have e : ((List.range (min its.toArray.size ([] : List Value).toArray.size)).all (fun _ => true) && its.toArray.size == ([] : List Value).toArray.size) = xs.isEmpty := by
    rw [vals_size r1]; cases xs <;> simp
  rw [e]; exact q
theorem wo_eqT0 {xs : List D} (hu : X.A.units < cLine) (q : Q (.bl xs.isEmpty) ms) : WO X B ms (compareOp .Eq) (.tup xs) (.tup []) Q := WO.of (op_eqT0 hu) fun H θ x y S r1 r2 => by
  obtain ⟨a, vs, rfl, s1, q1⟩ := rep_tup r1
  obtain ⟨b, ws, rfl, s2, q2⟩ := rep_tup r2
  have := reps_nil q2
  subst this
  refine ⟨a, b, vs, rfl, rfl, s1, s2, ?_⟩
  have e : vs.isEmpty = xs.isEmpty := by
    have := q1.length
    cases vs <;> cases xs <;> simp at this ⊢
  rw [e]; exact pv_same S mk_bl q
def rEqL0 (K : PySem.W.Frag) (neg : Bool) : R2 := fun x y H Q => ∃ a b xs, x = .ref a ∧ y = .ref b ∧ SqL K H a xs ∧ SqL K H b [] ∧ Q (.bl (neg ^^ xs.isEmpty)) H
theorem plainL_isList {h : Heap} {a : Addr} {its : Array Value} (p : PlainL h a its) : h.IsList a its := by
  obtain ⟨o, n, e, c, _, d⟩ := p
  exact ⟨o, e, c, n, d⟩
theorem op_eqL0 (hu : X.A.units < cLine) : OpR X (compareOp .Eq) (rEqL0 X.K false) := by
  intro pins s σ H x y v u Q I rx ry h
  obtain ⟨a, b, xs, rfl, rfl, ha, hb, q⟩ := h
  cases rx
  cases ry
  obtain ⟨its, r1, p1, _⟩ := I.list ha
  obtain ⟨its2, r2, p2, _⟩ := I.list hb
  have z2 : its2 = [] := by cases r2; rfl
  subst z2
  have l1 := plainL_isList p1
  have l2 := plainL_isList p2
  cases xs with
  | nil =>
    cases r1
    exact SeqAt.eq_listAt (e := fun _ => true) l1 l2 rfl hu (fun j _ h2 => absurd h2 (by simp)) ⟨.bl _, H, I, rfl, q⟩
  | cons v xs => exact SeqAt.eq_list_lengthsAt l1 l2 (by rw [vals_size r1]; rfl) hu ⟨.bl _, H, I, rfl, q⟩
theorem op_neL0 (hu : X.A.units < cLine) : OpR X (compareOp .NotEq) (rEqL0 X.K true) := by
  intro pins s σ H x y v u Q I rx ry h
  obtain ⟨a, b, xs, rfl, rfl, ha, hb, q⟩ := h
  cases rx
  cases ry
  obtain ⟨its, r1, p1, _⟩ := I.list ha
  obtain ⟨its2, r2, p2, _⟩ := I.list hb
  have z2 : its2 = [] := by cases r2; rfl
  subst z2
  have l1 := plainL_isList p1
  have l2 := plainL_isList p2
  cases xs with
  | nil =>
    cases r1
    exact SeqAt.RcNeAt.lists (e := fun _ => true) l1 l2 rfl hu (fun j _ h2 => absurd h2 (by simp)) _ _ _ _ ⟨.bl _, H, I, rfl, q⟩
  | cons v xs => exact SeqAt.RcNeAt.lists_lengths l1 l2 (by rw [vals_size r1]; rfl) hu _ _ _ _ ⟨.bl _, H, I, rfl, q⟩
theorem isEmpty_reps {K : PySem.W.Frag} {θ : List Addr} {H : Hp} {xs : List D} {vs : List V} (r : Reps K θ H xs vs) : vs.isEmpty = xs.isEmpty := by
  have := r.length
  cases vs <;> cases xs <;> simp at this ⊢
theorem wo_eqL0 {xs : List D} {k l : Nat} (hu : X.A.units < cLine) (hk : ms[k]? = some (.lst xs)) (hl : ms[l]? = some (.lst [])) (q : Q (.bl xs.isEmpty) ms) : WO X B ms (compareOp .Eq) (.obj k) (.obj l) Q := WO.of (op_eqL0 hu) fun H θ x y S r1 r2 => by
  obtain ⟨a, e1, rfl⟩ := rep_obj r1
  obtain ⟨b, e2, rfl⟩ := rep_obj r2
  obtain ⟨vs, s, rs⟩ := S.obs k _ a hk e1
  obtain ⟨ws, s2, rs2⟩ := S.obs l _ b hl e2
  have := reps_nil rs2
  subst this
  exact ⟨a, b, vs, rfl, rfl, SqL.of s, SqL.of s2, by rw [isEmpty_reps rs, Bool.false_xor]; exact pv_same S mk_bl q⟩
theorem wo_neL0 {xs : List D} {k l : Nat} (hu : X.A.units < cLine) (hk : ms[k]? = some (.lst xs)) (hl : ms[l]? = some (.lst [])) (q : Q (.bl (!xs.isEmpty)) ms) : WO X B ms (compareOp .NotEq) (.obj k) (.obj l) Q := WO.of (op_neL0 hu) fun H θ x y S r1 r2 => by
  obtain ⟨a, e1, rfl⟩ := rep_obj r1
  obtain ⟨b, e2, rfl⟩ := rep_obj r2
  obtain ⟨vs, s, rs⟩ := S.obs k _ a hk e1
  obtain ⟨ws, s2, rs2⟩ := S.obs l _ b hl e2
  have := reps_nil rs2
  subst this
  exact ⟨a, b, vs, rfl, rfl, SqL.of s, SqL.of s2, by rw [isEmpty_reps rs, Bool.true_xor]; exact pv_same S mk_bl q⟩
end
theorem wt_imp {X : Cx} {B : Bs} {ds : List (Option D)} {ms : List Ob} {e : Expr} {Q Q' : Bool → List Ob → Prop} (h : WT X B ds ms e Q') (q : ∀ b m, Q' b m → Q b m) : WT X B ds ms e Q := .mk fun σ H θ S L =>
  h.bind S L fun b m H1 more z im S1 L1 => ⟨m, more, im, S1, q b m z⟩
/-! ## [f x for x in xs if p x] -/
theorem lc_filtE {α : Type} {X : Cx} {ds : List (Option D)} {scope : Scope} {vs : List Nat} {app : D → List (Option D) → Option (List (Option D))} {elt c : Expr} {G : List Ob → Prop} {m : List Ob} {Q : D → List Ob → Prop} {items : List D} (xs : List α) (e : α → D) (p : α → Bool) (f : α → D) (hi : items = xs.map e)
    (hz : xs.length ≤ sizeLine) (hG : G m)
    (step : ∀ a ∈ xs, ∃ ds', app (e a) (wipeD ds vs) = some ds' ∧ ∀ (B : Bs) (s : Shared) (H : Hp) (C : Addr) (cl : List (Str × Addr)) (fp : List Addr), WT (X.blk s H scope (compEnvC scope cl C X.env) fp) B ds' m c fun b m3 => b = p a ∧ m3 = m ∧
      (p a = true → ∀ (s : Shared) (H : Hp) (C : Addr) (cl : List (Str × Addr)) (fp : List Addr), WE (X.blk s H scope (compEnvC scope cl C X.env) fp) B ds' m elt fun y m4 => y = f a ∧ m4 = m))
    (q : Q (.obj m.length) (m ++ [.lst ((xs.filter p).map f)])) : LcWord X ds scope vs app [c] elt items G m Q := by
  subst hi
  refine ⟨fun i acc m' => acc = ((xs.take i).filter p).map f ∧ m' = m, ⟨rfl, rfl⟩, fun i acc m' ⟨_, h⟩ => h ▸ hG, fun i d acc m' hi ⟨ha, hm'⟩ => ?_, fun acc m' ⟨ha, hm'⟩ _ => ?_⟩
  · subst hm'
    rw [List.getElem?_map] at hi
    obtain ⟨a, ea, rfl⟩ := Option.map_eq_some_iff.mp hi
    have hlt : i < xs.length := (List.getElem?_eq_some_iff.mp ea).1
    have hmem : a ∈ xs := List.mem_of_getElem? ea
    obtain ⟨ds', h1, h2⟩ := step a hmem
    have hl : acc.length ≤ i := by
      rw [ha, List.length_map]
      refine Nat.le_trans (List.length_filter_le _ _) ?_
      rw [List.length_take]; omega
    have ht : (xs.take (i + 1)).filter p = (xs.take i).filter p ++ (if p a = true then [a] else []) := by
      rw [List.take_succ, ea, List.filter_append]
      congr 1
      show List.filter p [a] = _
      by_cases hp : p a = true
      · rw [if_pos hp, List.filter_cons_of_pos hp, List.filter_nil]
      · rw [if_neg hp, List.filter_cons_of_neg hp, List.filter_nil]
    refine ⟨by omega, ds', h1, fun B s H C cl fp => ?_⟩
    show WT _ _ _ _ _ _
    refine wt_imp (h2 B s H C cl fp) fun b m3 ⟨hb, hm3, h3⟩ => ⟨fun hbt s H C cl fp => ?_, fun hbf => ?_⟩
    · subst hm3
      rw [hbt] at hb
      refine we_imp (h3 hb.symm s H C cl fp) fun y m4 ⟨hy, ht4⟩ => .inl ⟨?_, ht4⟩
      rw [hy, ha, ht, if_pos hb.symm, List.map_append]; rfl
    · rw [hbf] at hb
      exact ⟨by rw [ha, ht, if_neg (by rw [← hb]; decide), List.append_nil], hm3⟩
  · subst hm'
    rw [ha, List.length_map, List.take_length]
    exact q
end VL

namespace VL
open PySem PySem.Spec PyProof.Rows L2

/-! ## objects that will not change any more -/
theorem objOk_get {P : Program} {w : World} {H : Hp} {h : Heap} {a : Addr} {o : HO} (x : ObjOk P w H h a o) : ∃ ob, h.get? a = some ob := by
  cases o with
  | lst xs => obtain ⟨_, _, _, _, e⟩ := x; exact ⟨_, e⟩
  | tup xs => obtain ⟨_, _, _, ob, e, _⟩ := x; exact ⟨_, e⟩
  | dK kvs => obtain ⟨_, _, _, _, o, _, _, e, _⟩ := x; exact ⟨_, e⟩
  | dT kvs => obtain ⟨_, _, _, _, o, _, _, e, _⟩ := x; exact ⟨_, e⟩
  | set S n => obtain ⟨o, _, _, _, e, _⟩ := x; exact ⟨_, e⟩
  | ins C dx fs => obtain ⟨_, _, _, e, _⟩ := x; exact ⟨_, e⟩
  | own y => obtain ⟨_, e⟩ := x; exact ⟨_, e⟩
  | xd fs => obtain ⟨_, ⟨_, _, _, e, _⟩, _⟩ := x; exact ⟨_, e⟩
  | rng lo hi => obtain ⟨_, _, _, e⟩ := x; exact ⟨_, e⟩
  | frz ob u => obtain ⟨e, _⟩ := x; exact ⟨_, e⟩
  | tbl ps => exact ⟨_, (show h.get? a = some _ from x)⟩
  | met f y => exact ⟨_, (show h.get? a = some _ from x)⟩
  | ext φ => obtain ⟨_, ⟨_, e⟩, _⟩ := x; exact ⟨_, e⟩
theorem inv_frz {X : Cx} {pins : List (Addr × Obj)} {σ : St} {H : Hp} {s : Shared} {a : Addr} {u : HO} (I : Inv X pins σ H s) (e : H a = some u) (mu : Mut (some u)) : ∃ o, Inv X pins σ (upd H a (.frz o u)) s := by
  obtain ⟨o, ho⟩ := objOk_get (I.hok a u e)
  have mu' : Mut (H a) := by rw [e]; exact mu
  have nown : ∀ c y, H c = some (.own y) → c ≠ a := fun c y r z => by subst z; rw [e] at r; cases r; exact mu
  have ntup : ∀ c xs, H c = some (.tup xs) → c ≠ a := fun c xs r z => by subst z; rw [e] at r; cases r; exact mu
  have nfrz : ∀ c o v, H c = some (.frz o v) → c ≠ a := fun c o v r z => by subst z; rw [e] at r; cases r; exact mu
  have ntbl : ∀ c ps, H c = some (.tbl ps) → c ≠ a := fun c ps r z => by subst z; rw [e] at r; cases r; exact mu
  have hok : HOk X.prog X.w (upd H a (.frz o u)) s.heap := I.hok.write (x := a) (e := a) mu' (.inl rfl) (fun b v _ q => q) ⟨o, ho⟩
    ⟨ho, (I.hok a u e).stay (fun b v _ q => q) (fun c r => by rw [upd_ne (nown c a r)]; exact r) fun c xs r => by rw [upd_ne (ntup c xs r)]; exact r⟩
  refine ⟨o, ?_⟩
  have := I.step (g' := s.gens) (d' := s.drawn) (t' := s.toks) (ch := []) (H' := upd H a (.frz o u)) (h' := s.heap) (fun _ z => nomatch z) (fun b o _ _ _ q _ => q) (fun b o _ _ _ q _ => ⟨o.slots, q⟩)
    (fun b v _ _ n => by rw [upd_ne]; exact n; rintro rfl; rw [e] at n; cases n) (fun b v _ q => ⟨v, q⟩)
    (fun b xs r => by rw [upd_ne (ntup b xs r)]; exact r) (fun b v w r => by rw [upd_ne (nfrz b v w r)]; exact r) (fun b ps r => ⟨#[], by rw [upd_ne (ntbl b ps r), Array.append_empty]; exact r⟩) (fun m q => q) hok I.bare
  exact this
section
variable {X : Cx} {B : Bs} {ds : List (Option D)} {ms : List Ob} {Q : D → List Ob → Prop} {a b c : Expr} {pos : Pos}
/-- the newest object is held fast -/
theorem we_frz {e : Expr} (F : Ob → D → Prop) (hF : ∀ ob d, F ob d → ∀ (K : PySem.W.Frag) (θ : List Addr) (H : Hp) (x : Addr), ObR K θ H x ob → ∃ u, H x = some u ∧ Mut (some u) ∧ imm u = false ∧ ∀ (n : Nat) (o : Obj), D.cl n d = true → Rep K (θ.take n) (upd H x (.frz o u)) d (.ref x))
    (h : WE X B ds ms e fun d m => ∃ m1 ob d', d = .obj m1.length ∧ m = m1 ++ [ob] ∧ ms.length ≤ m1.length ∧ m1.all (Ob.cl m1.length) = true ∧ D.cl m1.length d' = true ∧ F ob d' ∧ Q d' m1) : WE X B ds ms e Q := .mk fun σ H θ S L pins s I =>
  thn (h σ H θ S L pins s I) fun u s' ⟨v, H', I', rv, d, m, more, r, im, S', m1, ob, d', e1, e2, hle, c1, c2, hf, q⟩ => by
    subst e1; subst e2
    obtain ⟨x, ex, rfl⟩ := rep_obj r
    have hlen := S'.len
    rw [List.length_append, List.length_append] at hlen
    have hml : more.length = m1.length + 1 - θ.length := by
      have : [ob].length = 1 := rfl
      omega
    have hob := S'.obs m1.length ob x gL ex
    obtain ⟨w, hw, mu, hi, hr⟩ := hF ob d' hf _ _ _ _ hob
    obtain ⟨o, I2⟩ := inv_frz I' hw mu
    have ht : (θ ++ more).take m1.length = θ ++ more.take (m1.length - θ.length) := by
      rw [List.take_append, List.take_of_length_le (by rw [S.len]; exact hle)]
    have S2 := S'.cut (n := m1.length) (by simp) (by rw [List.take_left]; exact c1)
    rw [List.take_left] at S2
    have hx : x ∉ (θ ++ more).take m1.length := fun z => by
      obtain ⟨j, hj, e⟩ := List.getElem_of_mem z
      have hj' : j < m1.length := by rw [List.length_take] at hj; omega
      rw [List.getElem_take] at e
      obtain ⟨l2, e2⟩ := List.getElem?_eq_some_iff.mp ex
      have := (List.getElem_inj S'.nd).mp (e.trans e2.symm)
      omega
    obtain ⟨S3, im3⟩ := S2.other (o := .frz o w) hx (S'.new x (List.mem_of_getElem? ex)) hw hi
    refine ⟨.ref x, upd H' x (.frz o w), I2, rv, d', m1, more.take (m1.length - θ.length), ?_, im.trans im3, ?_, q⟩
    · rw [← ht]; exact hr _ _ c2
    · rw [← ht]; exact S3
def FrzL : Ob → D → Prop := fun ob d => ∃ xs, ob = .lst xs ∧ d = .rol xs
theorem frzL_ok : ∀ ob d, FrzL ob d → ∀ (K : PySem.W.Frag) (θ : List Addr) (H : Hp) (x : Addr), ObR K θ H x ob → ∃ u, H x = some u ∧ Mut (some u) ∧ imm u = false ∧ ∀ (n : Nat) (o : Obj), D.cl n d = true → Rep K (θ.take n) (upd H x (.frz o u)) d (.ref x) := by
  rintro _ _ ⟨xs, rfl, rfl⟩ K θ H x ⟨vs, hx, rs⟩
  refine ⟨_, hx, trivial, rfl, fun n o c => ?_⟩
  unfold Rep
  exact ⟨x, vs, rfl, .inl ⟨o, upd_same⟩, Reps.mono (Le.refl _) (ImmP.mut hx rfl) _ _ (Reps.cutA _ _ (by simpa [D.cl] using c) rs)⟩
theorem repKV_split {κ : Type} {K : PySem.W.Frag} {θ : List Addr} {H : Hp} : ∀ {kvs : List (κ × D)} {vs : List (κ × V)}, RepKV K θ H kvs vs → ∃ ws, vs = (kvs.map (·.1)).zip ws ∧ Reps K θ H (kvs.map (·.2)) ws
  | [], _, h => by
    have : _ = [] := h
    subst this
    exact ⟨[], rfl, mk_nil⟩
  | (k, d) :: r, _, h => by
    obtain ⟨v, vs', rfl, r1, rs⟩ := h
    obtain ⟨ws, rfl, r2⟩ := repKV_split rs
    exact ⟨v :: ws, rfl, mk_cons r1 r2⟩
def FrzD : Ob → D → Prop := fun ob d => ∃ kvs : List (Key × D), ob = .dK kvs ∧ d = .rod (kvs.map (·.1)) (kvs.map (·.2))
theorem frzD_ok : ∀ ob d, FrzD ob d → ∀ (K : PySem.W.Frag) (θ : List Addr) (H : Hp) (x : Addr), ObR K θ H x ob → ∃ u, H x = some u ∧ Mut (some u) ∧ imm u = false ∧ ∀ (n : Nat) (o : Obj), D.cl n d = true → Rep K (θ.take n) (upd H x (.frz o u)) d (.ref x) := by
  rintro _ _ ⟨kvs, rfl, rfl⟩ K θ H x ⟨vs, hx, rs⟩
  obtain ⟨ws, rfl, r2⟩ := repKV_split rs
  refine ⟨_, hx, trivial, rfl, fun n o c => ?_⟩
  unfold Rep
  exact ⟨x, ws, rfl, ⟨o, upd_same⟩, by simp, Reps.mono (Le.refl _) (ImmP.mut hx rfl) _ _ (Reps.cutA _ _ (by simpa [D.cl] using c) r2)⟩
theorem we_frzL {e : Expr} (h : WE X B ds ms e fun d m => ∃ m1 xs, d = .obj m1.length ∧ m = m1 ++ [.lst xs] ∧ ms.length ≤ m1.length ∧ m1.all (Ob.cl m1.length) = true ∧ imAll xs = true ∧ Q (.rol xs) m1) : WE X B ds ms e Q :=
  we_frz FrzL frzL_ok (we_imp h fun d m ⟨m1, xs, e1, e2, h1, h2, h3, q⟩ => ⟨m1, .lst xs, .rol xs, e1, e2, h1, h2, by unfold D.cl; exact im_clA h3, ⟨xs, rfl, rfl⟩, q⟩)
theorem we_frzD {e : Expr} (h : WE X B ds ms e fun d m => ∃ m1 kvs, d = .obj m1.length ∧ m = m1 ++ [.dK kvs] ∧ ms.length ≤ m1.length ∧ m1.all (Ob.cl m1.length) = true ∧ imAll (kvs.map (·.2)) = true ∧ Q (.rod (kvs.map (·.1)) (kvs.map (·.2))) m1) : WE X B ds ms e Q :=
  we_frz FrzD frzD_ok (we_imp h fun d m ⟨m1, kvs, e1, e2, h1, h2, h3, q⟩ => ⟨m1, .dK kvs, _, e1, e2, h1, h2, by unfold D.cl; exact im_clA h3, ⟨kvs, rfl, rfl⟩, q⟩)
end
end VL

namespace VL
open PySem PySem.Spec PyProof.Rows L2

/-! ## values -/
mutual
def D.val : D → Bool
  | .tup ds => valAll ds
  | .rol ds => valAll ds
  | .rod _ ds => valAll ds
  | .obj _ => false
  | .ref _ => false
  | .ty _ => false
  | _ => true
def valAll : List D → Bool
  | [] => true
  | d :: ds => D.val d && valAll ds
end
theorem valAll_iff {ds : List D} : valAll ds = true ↔ ∀ d ∈ ds, d.val = true := by
  induction ds with
  | nil => simp [valAll]
  | cons d ds ih => simp [valAll, ih]
mutual
theorem val_im : ∀ {d : D}, d.val = true → d.im = true
  | .non, _ => rfl
  | .bl _, _ => rfl
  | .int _, _ => rfl
  | .str _, _ => rfl
  | .ref _, h => by simp [D.val] at h
  | .ty _, h => by simp [D.val] at h
  | .obj _, h => by simp [D.val] at h
  | .tup ds, h => by unfold D.im; exact valAll_im (by simpa [D.val] using h)
  | .rol ds, h => by unfold D.im; exact valAll_im (by simpa [D.val] using h)
  | .rod _ ds, h => by unfold D.im; exact valAll_im (by simpa [D.val] using h)
theorem valAll_im : ∀ {ds : List D}, valAll ds = true → imAll ds = true
  | [], _ => rfl
  | d :: ds, h => by
    have h' : d.val = true ∧ valAll ds = true := by simpa [valAll] using h
    unfold imAll; rw [val_im h'.1, valAll_im h'.2]; rfl
end
def isIntB : D → Bool
  | .int _ => true
  | .bl _ => true
  | _ => false
def isBlB : D → Bool
  | .bl _ => true
  | _ => false
def isTupB : D → Bool
  | .tup _ => true
  | _ => false
def isStrB : D → Bool
  | .str _ => true
  | _ => false
def tyK : D → Bool
  | .ref _ => false
  | .ty _ => false
  | .obj _ => false
  | _ => true
theorem val_tyK {d : D} (h : d.val = true) : tyK d = true := by cases d <;> first | rfl | (simp [D.val] at h; done)
section
variable {X : Cx} {B : Bs} {ds : List (Option D)} {ms : List Ob} {Q : D → List Ob → Prop} {a b c : Expr} {pos : Pos}
theorem we_not (h : WE X B ds ms a fun d m => ∃ k, d = .bl k ∧ Q (.bl (!k)) m) : WE X B ds ms (.UnaryOp .Not a pos) Q :=
  WE.pe (pe_not pe_can) fun σ H θ S L => h.bind S L fun d m v H1 more ⟨k, e, q⟩ r im S1 L1 => by
    subst e
    exact ⟨k, rep_bl r, PV.trans im (pv_same S1 mk_bl q)⟩
theorem wc_isiI {d : D} (hv : tyK d = true) (q : Q (.bl (isIntB d)) ms) : WC X B ms (.builtin "isinstance") [d, .ty "int"] Q := by
  cases d with
  | non => exact wc_isi (k := false) rfl (by decide +kernel) q
  | bl _ => exact wc_isi (k := true) rfl (by decide +kernel) q
  | int _ => exact wc_isi (k := true) rfl (by decide +kernel) q
  | str _ => exact wc_isi (k := false) rfl (by decide +kernel) q
  | tup _ => exact wc_isi (k := false) rfl (by decide +kernel) q
  | rol _ => exact wc_isi (k := false) rfl (by decide +kernel) q
  | rod _ _ => exact wc_isi (k := false) rfl (by decide +kernel) q
  | _ => simp [tyK] at hv
theorem wc_isiB {d : D} (hv : tyK d = true) (q : Q (.bl (isBlB d)) ms) : WC X B ms (.builtin "isinstance") [d, .ty "bool"] Q := by
  cases d with
  | non => exact wc_isi (k := false) rfl (by decide +kernel) q
  | bl _ => exact wc_isi (k := true) rfl (by decide +kernel) q
  | int _ => exact wc_isi (k := false) rfl (by decide +kernel) q
  | str _ => exact wc_isi (k := false) rfl (by decide +kernel) q
  | tup _ => exact wc_isi (k := false) rfl (by decide +kernel) q
  | rol _ => exact wc_isi (k := false) rfl (by decide +kernel) q
  | rod _ _ => exact wc_isi (k := false) rfl (by decide +kernel) q
  | _ => simp [tyK] at hv
theorem wc_isiT {d : D} (hv : tyK d = true) (q : Q (.bl (isTupB d)) ms) : WC X B ms (.builtin "isinstance") [d, .ty "tuple"] Q := by
  cases d with
  | non => exact wc_isi (k := false) rfl (by decide +kernel) q
  | bl _ => exact wc_isi (k := false) rfl (by decide +kernel) q
  | int _ => exact wc_isi (k := false) rfl (by decide +kernel) q
  | str _ => exact wc_isi (k := false) rfl (by decide +kernel) q
  | tup _ => exact wc_isi (k := true) rfl (by decide +kernel) q
  | rol _ => exact wc_isi (k := false) rfl (by decide +kernel) q
  | rod _ _ => exact wc_isi (k := false) rfl (by decide +kernel) q
  | _ => simp [tyK] at hv
theorem wc_isiS {d : D} (hv : tyK d = true) (q : Q (.bl (isStrB d)) ms) : WC X B ms (.builtin "isinstance") [d, .ty "str"] Q := by
  cases d with
  | non => exact wc_isi (k := false) rfl (by decide +kernel) q
  | bl _ => exact wc_isi (k := false) rfl (by decide +kernel) q
  | int _ => exact wc_isi (k := false) rfl (by decide +kernel) q
  | str _ => exact wc_isi (k := true) rfl (by decide +kernel) q
  | tup _ => exact wc_isi (k := false) rfl (by decide +kernel) q
  | rol _ => exact wc_isi (k := false) rfl (by decide +kernel) q
  | rod _ _ => exact wc_isi (k := false) rfl (by decide +kernel) q
  | _ => simp [tyK] at hv
end
/-- a tuple is never longer than a line -/
theorem we_szT {X : Cx} {B : Bs} {ds : List (Option D)} {ms : List Ob} {Q : D → List Ob → Prop} {e : Expr} (h : WE X B ds ms e fun d m => (∀ xs, d = .tup xs → xs.length ≤ sizeLine) → Q d m) : WE X B ds ms e Q := .mk fun σ H θ S L pins s I =>
  thn (h σ H θ S L pins s I) fun u s' ⟨v, H', I', rv, d, m, more, r, im, S', q⟩ => ⟨v, H', I', rv, d, m, more, r, im, S', q fun xs e => by
    subst e
    obtain ⟨a, vs, rfl, s0, rs⟩ := rep_tup r
    obtain ⟨its, _, _, hz⟩ := I'.tuple s0
    rw [← rs.length]; exact hz⟩
theorem wi_tupZ {X : Cx} {B : Bs} {ds : List (Option D)} {ms : List Ob} {tg e : Expr} {R : List D → (List Ob → Prop) → List Ob → Prop} (h : WE X B ds ms e fun d m => ∃ xs, d = .tup xs ∧ (xs.length ≤ sizeLine → R xs (fun _ => True) m)) : WI X B ds ms tg e R :=
  wi_tup (we_szT (we_imp h fun d m ⟨xs, e, q⟩ hs => ⟨xs, e, q (hs xs e)⟩))
/-! ## whether a value is a comparison -/
def intInD (lo hi : Int) : D → Bool
  | .int i => decide (lo ≤ i) && decide (i ≤ hi)
  | _ => false
def isIntP : List D → D → Prop := fun dl v => ∃ d lo hi, d.val = true ∧ dl = [d, .int lo, .int hi] ∧ v = .bl (intInD lo hi d)
theorem len_isIntP : ∀ dl v, isIntP dl v → dl.length = 3 := by rintro dl v ⟨d, lo, hi, _, rfl, _⟩; rfl
theorem im_isIntP : ∀ dl v, isIntP dl v → v.im = true := by rintro dl v ⟨d, lo, hi, _, _, rfl⟩; rfl
def wideN (L : Nat) : Nat := (colsN L).length
/-- whether a value is a row for L letters and n states -/
def isRowD (L n : Nat) : D → Bool
  | .tup xs => decide (xs.length = wideN L) && (xs.filter fun d => !intInD 0 ((n : Int) - 1) d).isEmpty
  | _ => false
def isMarksD (n : Nat) : D → Bool
  | .tup xs => decide (xs.length = n) && (xs.filter fun d => !intInD (-1) 1 d).isEmpty
  | _ => false
def badD (x : D) (s : Str) : D := .tup [x, .str s]
def lettersOf : D → Nat
  | .int i => i.toNat
  | _ => 0
def errR (L : Nat) (rs : List D) (m : D) : D := match rs.findIdx? fun r => !isRowD L rs.length r with
  | some k => badD (.int (k : Nat)) "row"
  | none => if isMarksD rs.length m then .non else badD .non "verdicts"
def err3 (l r m : D) : D := if intInD 1 3 l = false then badD .non "letters" else match r with
  | .tup rs => if rs.isEmpty then badD .non "rows" else errR (lettersOf l) rs m
  | _ => badD .non "rows"
def errD : D → D
  | .tup [l, r, m] => err3 l r m
  | _ => badD .non "comp"
theorem err_letters {l r m : D} (h : intInD 1 3 l = false) : errD (.tup [l, r, m]) = badD .non "letters" := by
  show err3 l r m = _
  unfold err3
  rw [if_pos h]
theorem err_rows {l r m : D} (h : intInD 1 3 l = true) (hr : ∀ rs, r = .tup rs → rs = []) : errD (.tup [l, r, m]) = badD .non "rows" := by
  show err3 l r m = _
  unfold err3
  rw [if_neg (by rw [h]; decide)]
  split
  · rw [hr _ rfl]; rfl
  · rfl
theorem err_in {L : Nat} {rs : List D} {m : D} (h : intInD 1 3 (.int L) = true) (hr : rs ≠ []) : errD (.tup [.int L, .tup rs, m]) = errR L rs m := by
  show err3 (.int (L : Nat)) (.tup rs) m = _
  unfold err3
  rw [if_neg (by rw [h]; decide)]
  show (if rs.isEmpty = true then _ else _) = _
  rw [if_neg (by simpa using hr)]
  show errR (Int.toNat (L : Nat)) rs m = _
  rw [Int.toNat_natCast]
theorem err_comp {d : D} (h : ¬ ∃ l r m, d = .tup [l, r, m]) : errD d = badD .non "comp" := by
  unfold errD
  split
  · exact absurd ⟨_, _, _, rfl⟩ h
  · rfl
theorem errR_row {L : Nat} {rs : List D} {m : D} {k : Nat} {r : D} (hk : rs[k]? = some r) (hb : isRowD L rs.length r = false) (hp : ∀ j x, j < k → rs[j]? = some x → isRowD L rs.length x = true) : errR L rs m = badD (.int (k : Nat)) "row" := by
  unfold errR
  have e : (rs.findIdx? fun r => !isRowD L rs.length r) = some k := by
    obtain ⟨hl, e⟩ := List.getElem?_eq_some_iff.mp hk
    refine List.findIdx?_eq_some_iff_getElem.mpr ⟨hl, by rw [e, hb]; rfl, fun j hj => ?_⟩
    rw [hp j _ hj (List.getElem?_eq_getElem (by omega))]; decide
  rw [e]
theorem errR_none {L : Nat} {rs : List D} {m : D} (hp : ∀ x ∈ rs, isRowD L rs.length x = true) : errR L rs m = if isMarksD rs.length m then .non else badD .non "verdicts" := by
  unfold errR
  have e : (rs.findIdx? fun r => !isRowD L rs.length r) = none := by
    refine List.findIdx?_eq_none_iff.mpr fun x hx => ?_
    rw [hp x hx]; rfl
  rw [e]
def isRowP : List D → D → Prop := fun dl v => ∃ (d : D) (L n : Nat), d.val = true ∧ 1 ≤ L ∧ L ≤ 3 ∧ dl = [d, .int L, .int n] ∧ v = .bl (isRowD L n d)
theorem len_isRowP : ∀ dl v, isRowP dl v → dl.length = 3 := by rintro dl v ⟨d, lo, hi, _, _, _, rfl, _⟩; rfl
theorem im_isRowP : ∀ dl v, isRowP dl v → v.im = true := by rintro dl v ⟨d, lo, hi, _, _, _, _, rfl⟩; rfl
def isMarksP : List D → D → Prop := fun dl v => ∃ (d : D) (n : Nat), d.val = true ∧ dl = [d, .int n] ∧ v = .bl (isMarksD n d)
theorem len_isMarksP : ∀ dl v, isMarksP dl v → dl.length = 2 := by rintro dl v ⟨d, lo, _, rfl, _⟩; rfl
theorem im_isMarksP : ∀ dl v, isMarksP dl v → v.im = true := by rintro dl v ⟨d, lo, _, _, rfl⟩; rfl
theorem val_tup {xs : List D} (h : (D.tup xs).val = true) : ∀ d ∈ xs, d.val = true := valAll_iff.mp (by simpa [D.val] using h)
theorem wideN_eq {L : Nat} (h1 : 1 ≤ L) (h3 : L ≤ 3) : wideN L = (L + 1) * (L + 1) - 1 := cols_len h1 h3
def errP : List D → D → Prop := fun dl v => ∃ d : D, d.val = true ∧ dl = [d] ∧ v = errD d
def errP_len : ∀ dl v, errP dl v → dl.length = 1 := by rintro dl v ⟨d, _, rfl, _⟩; rfl
theorem im_bad {x : D} {s : Str} (h : x.im = true) : (badD x s).im = true := by
  show (x.im && (D.im (.str s) && true)) = true
  rw [h]; rfl
theorem errP_im : ∀ dl v, errP dl v → v.im = true := by
  rintro dl v ⟨d, _, _, rfl⟩
  unfold errD err3 errR
  split
  · split
    · rfl
    · split
      · split
        · rfl
        · split
          · rfl
          · split <;> rfl
      · rfl
  · rfl
end VL

namespace VL
open PySem PySem.Spec PyProof.Rows L2
/-! ## t[::-1] -/
section
variable {prog : Program} {w : World} {A : Around} {E : Value → Shared → Prop} {s : Shared}
theorem applied_rev {sl : Addr} {vs : Value} {n : Nat} {Q : Int × Int × Nat → Shared → Prop} (hs : s.heap.IsSliceOf sl .none .none vs) (ps : IsPart vs (some (-1)))
    (h : Q ((n : Int) - 1, -1, n) s) : wpAny (model prog w) A (Builtin.Slice.sliceApplied (.ref sl) (pure (n : Int))) Q E s := by
  obtain ⟨os, hos, hcs, hds⟩ := id hs
  unfold Builtin.Slice.sliceApplied Builtin.Slice.sliceFields
  refine wpAny_bind (wpAny_bind (wpAny_field hos hds (x := .none) rfl (wpAny_bind (wpAny_field hos hds (x := .none) rfl (wpAny_bind (wpAny_field hos hds (x := vs) rfl (wpAny_pure ?_)))))))
  refine wpAny_bind (HT.slicePart_ ps ?_)
  show wpAny _ _ (if ((-1 : Int) == 0) = true then _ else _) _ _ s
  rw [if_neg (by decide)]
  refine wpAny_bind (HT.slicePart_ .none (wpAny_bind (HT.slicePart_ .none (wpAny_bind (wpAny_pure ?_)))))
  show wpAny _ _ (match Builtin.Slice.sliceAdjust none none (-1) (n : Int) with | (lo, hi) => pure (lo, (-1 : Int), Builtin.Slice.slicePlaces lo hi (-1))) _ _ s
  have e : Builtin.Slice.sliceAdjust none none (-1) (n : Int) = ((n : Int) - 1, -1) := rfl
  rw [e]
  have e2 : Builtin.Slice.slicePlaces ((n : Int) - 1) (-1) (-1) = n := by
    unfold Builtin.Slice.slicePlaces
    rw [if_neg (by decide)]
    show (if (n : Int) - 1 > -1 then ((n : Int) - 1 - -1 - 1) / 1 + 1 else 0).toNat = n
    split <;> omega
  show wpAny _ _ (pure ((n : Int) - 1, (-1 : Int), Builtin.Slice.slicePlaces ((n : Int) - 1) (-1) (-1))) _ _ s
  rw [e2]
  exact wpAny_pure h
theorem rev_pick (xs : Array Value) : ((List.range xs.size).filterMap fun (k : Nat) => xs[((xs.size : Int) - 1 + (k : Int) * (-1)).toNat]?).toArray = xs.toList.reverse.toArray := by
  have e : (fun (k : Nat) => xs[((xs.size : Int) - 1 + (k : Int) * (-1)).toNat]?) = (fun j => xs[j]?) ∘ fun k => xs.size - 1 - k := by
    funext k
    have : ((xs.size : Int) - 1 + (k : Int) * (-1)).toNat = xs.size - 1 - k := by omega
    rw [this]; rfl
  rw [e, ← List.filterMap_map, PySem.W.krv_range, List.filterMap_reverse, PySem.W.krv_all]
theorem getItem_tuple_rev {t sl : Addr} {items : Array Value} {vs : Value} {Q : Value → Shared → Prop} (ht : IsTup s.heap t items) (hs : s.heap.IsSliceOf sl .none .none vs) (ps : IsPart vs (some (-1)))
    (h : Q (.ref s.heap.objs.size) { s with heap := s.heap.push { cls := .type "tuple", data := .seq items.toList.reverse.toArray } })
    (hsz : items.size ≤ sizeLine) : wpAny (model prog w) A (getItem (.ref t) (.ref sl)) Q E s := by
  have htake : sizeOk (.seq items.toList.reverse.toArray) := by
    show items.toList.reverse.toArray.size ≤ sizeLine
    rw [List.size_toArray, List.length_reverse, Array.length_toList]; exact hsz
  obtain ⟨os, hos, hcs, hds⟩ := id hs
  have hTs : s.TypeIs (.ref sl) "slice" := ⟨os, hos, hcs⟩
  unfold getItem
  try with_reducible refine wpAny_holding ?_
  first | refine wpAny_bind (wpAny_pure ?_) | skip
  refine wpAny_bind (wpAny_sequenceKey ht.typeIs (by decide) ?_)
  refine wpAny_bind (wpAny_callSpecial?_slot (name := Str.ofString "__getitem__") ht.typeIs PyProof.Rows.slot_tuple_getitem
    (wpAny_call_entry PyProof.Rows.slot_tuple_getitem ht.typeIs PyProof.Rows.entry_tuple_getitem ?_ (PyProof.Rows.args_tuple_getitem _ _)))
  show wpAny _ _ (Builtin.Tuple.tupleItemsOf (.ref t) >>= _) _ _ s
  refine wpAny_bind (PyProof.Rows.tupleItemsOf_ ht ?_)
  refine wpAny_bind (wpAny_typeOf hTs ?_)
  rw [if_pos (by decide)]
  refine wpAny_bind (applied_rev hs ps ?_)
  have hno : ¬ ((((items.size : Int) - 1) == 0 && (-1 : Int) == 1 && items.size == items.size) = true) := by
    intro q
    rw [Bool.and_eq_true, Bool.and_eq_true] at q
    have q1 : (-1 : Int) = 1 := eq_of_beq q.1.2
    omega
  show wpAny _ _ (if (((items.size : Int) - 1) == 0 && (-1 : Int) == 1 && items.size == items.size) = true then _ else _) _ _ s
  rw [if_neg hno, rev_pick]
  first
    | exact wpAny_bind (m := Builtin.Tuple.tupleExact _) (wpAny_newObj_type (wpAny_pure ⟨_, rfl, wpAny_pure h⟩) htake)
    | exact wpAny_bind (m := Builtin.Tuple.tupleExact _) (wpAny_newObj_type (wpAny_bind (wpAny_pure (wpAny_pure ⟨_, rfl, wpAny_pure h⟩))) htake)
    | exact wpAny_bind (wpAny_bind (m := Builtin.Tuple.tupleExact _) (wpAny_newObj_type (wpAny_pure (wpAny_pure ⟨_, rfl, wpAny_pure h⟩)) htake))
    | exact wpAny_bind (wpAny_bind (m := Builtin.Tuple.tupleExact _) (wpAny_newObj_type (wpAny_pure ⟨_, rfl, wpAny_pure h⟩) htake))
end

def tRevT (K : PySem.W.Frag) (te : TE) : TE := fun σ H Q => te σ H fun x H1 => (∃ a xs, x = .ref a ∧ SqT K H1 a xs ∧ ∀ p, H1 p = none → Q (.ref p) (upd H1 p (.tup xs.reverse))) ∨ (∃ z : Str, x = .str z ∧ z.length ≤ sizeLine ∧ Q (.str ⟨z.cps.toList.reverse.toArray⟩) H1)
theorem str_rev_pick (z : Str) : ((Builtin.Str.strSliceIndices none none (-1) z.length).filterMap (z.cps[·]?)).toArray = z.cps.toList.reverse.toArray := by
  have e : Builtin.Str.strSliceIndices none none (-1) z.length = (List.range z.length).map fun k => z.length - 1 - k := by
    show sliceRange ((z.length : Int) - 1) (-1) (-1) = _
    exact PySem.W.krv_sliceRange z.length
  rw [e, PySem.W.krv_range, List.filterMap_reverse]
  have := PySem.W.krv_all z.cps
  show ((List.range z.cps.size).filterMap (z.cps[·]?)).reverse.toArray = _
  rw [this]
theorem pe_revT {X : Cx} {e : Expr} {te : TE} {k : Nat} {p1 p2 p3 pos : Pos} (he : PE X e te) : PE X (.Subscript e (.Slice none none (some (.UnaryOp .USub (.Constant (.int 1) k p1) p2)) p3) pos) (tRevT X.K te) := by
  refine ⟨fun pins s σ H Q I h => ?_⟩
  refine Subscript_ (thn (he.run pins s σ H _ I h) fun v s1 ⟨x, H1, I1, r1, q1⟩ => ?_)
  have hst : PO X (some (.UnaryOp .USub (.Constant (.int 1) k p1) p2)) (tPart (tUn (rU fun i => .int (-i)) (tC (.int 1)))) := po_some (pe_un un_neg pe_int)
  refine wpAny_Slice (thn (po_none.run pins s1 σ H1 (fun o H2 => o = none ∧ H2 = H1) I1 ⟨rfl, rfl⟩) fun vl s2 ⟨l, H2, I2, pl, el, e2⟩ => ?_)
  subst el e2
  refine thn (po_none.run pins s2 σ H2 (fun o H3 => o = none ∧ H3 = H2) I2 ⟨rfl, rfl⟩) fun vu s3 ⟨u, H3, I3, pu, eu, e3⟩ => ?_
  subst eu e3
  refine thn (hst.run pins s3 σ H3 (fun o H4 => o = some (-1) ∧ H4 = H3) I3 ⟨1, rfl, -1, rfl, rfl, rfl⟩) fun vs s4 ⟨o, H4, I4, ps, eo, e4⟩ => ?_
  subst eo e4
  have I5 : Inv X pins σ H4 { s4 with heap := s4.heap.push { cls := .type "slice", data := .fields #[vl, vu, vs] } } := I4.kept (t' := s4.toks) fun b ob q => Heap.get?_push_of_some _ q
  cases pl
  cases pu
  rcases q1 with ⟨a, xs, ex, hx, q⟩ | ⟨z, ez, hz, q⟩
  · subst ex
    cases r1
    obtain ⟨its, r, ht, hz⟩ := I5.tuple hx
    have hlen := r.length
    show wpAny (model X.prog X.w) X.A (subscriptTail e (.Slice none none (some (.UnaryOp .USub (.Constant (.int 1) k p1) p2)) p3) (.ref a) (.ref s4.heap.objs.size)) (EP X pins σ Q) X.xe { s4 with heap := s4.heap.push { cls := .type "slice", data := .fields #[.none, .none, vs] } }
    refine tail_any (ops := [.ref a, .ref s4.heap.objs.size]) ht.typeIs (PyProof.Rows.slot_tuple_getitem.lookup) ?_ (by with_unfolding_all rfl)
    refine getItem_tuple_rev ht (Heap.IsSliceOf.new _ .none .none vs) ps ?_ (by rw [List.size_toArray]; omega)
    refine ⟨.ref _, _, I5.laid (t' := s4.toks) (o := .tup xs.reverse) (fun b ob q => Heap.get?_push_of_some _ q) (Nat.le_refl _) ?_, rfl, q _ (I5.hok.fresh (Nat.le_refl _))⟩
    exact ⟨by rw [List.length_reverse]; exact hz, _, r.reverse, _, Heap.get?_push_size _ rfl, rfl, 0, rfl⟩
  · subst ez
    obtain ⟨t, rfl⟩ := r1
    obtain ⟨p, rfl, ep⟩ := IsPart.raw ps
    show wpAny (model X.prog X.w) X.A (subscriptTail e (.Slice none none (some (.UnaryOp .USub (.Constant (.int 1) k p1) p2)) p3) (.str z t) (.ref s4.heap.objs.size)) (EP X pins σ Q) X.xe { s4 with heap := s4.heap.push { cls := .type "slice", data := .fields #[.none, .none, partValue p] } }
    refine tail_any (ops := [.str z t, .ref s4.heap.objs.size]) (typeIs_str _ _ _) (F.slot_str_getitem.lookup) ?_ (by with_unfolding_all rfl)
    refine wpAny_getItem_str_slice (l := none) (u := none) (st := p) ⟨_, Heap.get?_push_size _ rfl, rfl, rfl⟩ (by rw [ep]; rfl) ?_
    unfold sliceMade slicePicked
    rw [ep]
    show Made.post (if ((-1 : Int) == 1 && _) = true then _ else _) (EP X pins σ Q) _
    rw [if_neg (by rw [show ((-1 : Int) == 1) = false from rfl, Bool.false_and]; decide)]
    show Made.post (Made.str ⟨((Builtin.Str.strSliceIndices none none (-1) z.length).filterMap (z.cps[·]?)).toArray⟩) (EP X pins σ Q) _
    rw [str_rev_pick]
    refine ⟨?_, .str ⟨z.cps.toList.reverse.toArray⟩, _, I5.tok _, ⟨_, rfl⟩, q⟩
    show z.cps.toList.reverse.toArray.size ≤ sizeLine
    rw [List.size_toArray, List.length_reverse, Array.length_toList]; exact hz
section
variable {X : Cx} {B : Bs} {ds : List (Option D)} {ms : List Ob} {Q : D → List Ob → Prop} {a b c : Expr} {pos : Pos}
theorem wc_lenTZ {xs : List D} (q : xs.length ≤ sizeLine → Q (.int xs.length) ms) : WC X B ms (.builtin "len") [.tup xs] Q := fun H θ vs S r pins s σ us I rx => by
  obtain ⟨v, rfl, r1⟩ := reps1 r
  obtain ⟨a, ws, rfl, s0, rs⟩ := rep_tup r1
  obtain ⟨_, _, _, hz⟩ := I.tuple s0
  exact wc_lenT (q (by rw [← rs.length]; exact hz)) H θ _ S r pins s σ us I rx
theorem we_revT {k : Nat} {p1 p2 p3 : Pos} (h : WE X B ds ms a fun d m => ∃ xs, d = .tup xs ∧ Q (.tup xs.reverse) m) :
    WE X B ds ms (.Subscript a (.Slice none none (some (.UnaryOp .USub (.Constant (.int 1) k p1) p2)) p3) pos) Q :=
  WE.pe (pe_revT pe_can) fun σ H θ S L => h.bind S L fun d m v H1 more q1 r1 im1 S1 L1 => by
    obtain ⟨xs, rfl, q1⟩ := q1
    obtain ⟨p, vs, rfl, s, rs⟩ := rep_tup r1
    exact .inl ⟨p, vs, rfl, s, fun l hl => (pv_tup S1 rs.reverse hl q1).trans im1⟩
theorem we_revS {k : Nat} {p1 p2 p3 : Pos} (h : WE X B ds ms a fun d m => ∃ z : Str, d = .str z ∧ z.length ≤ sizeLine ∧ Q (.str ⟨z.cps.toList.reverse.toArray⟩) m) :
    WE X B ds ms (.Subscript a (.Slice none none (some (.UnaryOp .USub (.Constant (.int 1) k p1) p2)) p3) pos) Q :=
  WE.pe (pe_revT pe_can) fun σ H θ S L => h.bind S L fun d m v H1 more q1 r1 im1 S1 L1 => by
    obtain ⟨z, rfl, hz, q1⟩ := q1
    exact .inr ⟨z, rep_str r1, hz, PV.trans im1 (pv_same S1 mk_str q1)⟩
end
theorem line62 {n : Nat} (h : n ≤ sizeLine) : -(2 ^ 62) ≤ (n : Int) ∧ (n : Int) < 2 ^ 62 := by
  have : n ≤ 16777216 := h
  omega
theorem mkS_rev (l : List Nat) : (⟨(mkS l).cps.toList.reverse.toArray⟩ : Str) = mkS l.reverse := by rw [mkS_cps]; rfl
end VL

namespace VL
open PySem PySem.Spec PyProof.Rows L2
/-! ## how long a value's tuples are -/
mutual
def D.szB (n : Nat) : D → Bool
  | .tup ds => decide (ds.length ≤ n) && szAll n ds
  | _ => true
def szAll (n : Nat) : List D → Bool
  | [] => true
  | d :: ds => D.szB n d && szAll n ds
end
theorem szAll_iff {n : Nat} {ds : List D} : szAll n ds = true ↔ ∀ d ∈ ds, d.szB n = true := by
  induction ds with
  | nil => simp [szAll]
  | cons d ds ih => simp [szAll, ih]
mutual
theorem szB_mono {n k : Nat} (h : n ≤ k) : ∀ {d : D}, d.szB n = true → d.szB k = true
  | .tup ds, e => by
    unfold D.szB at e ⊢
    rw [Bool.and_eq_true] at e ⊢
    exact ⟨decide_eq_true (Nat.le_trans (of_decide_eq_true e.1) h), szAll_mono h e.2⟩
  | .non, _ => rfl
  | .bl _, _ => rfl
  | .int _, _ => rfl
  | .str _, _ => rfl
  | .ref _, _ => rfl
  | .ty _, _ => rfl
  | .obj _, _ => rfl
  | .rol _, _ => rfl
  | .rod _ _, _ => rfl
theorem szAll_mono {n k : Nat} (h : n ≤ k) : ∀ {ds : List D}, szAll n ds = true → szAll k ds = true
  | [], _ => rfl
  | d :: ds, e => by
    unfold szAll at e ⊢
    rw [Bool.and_eq_true] at e ⊢
    exact ⟨szB_mono h e.1, szAll_mono h e.2⟩
end
theorem val_mk {xs : List D} (h : ∀ d ∈ xs, d.val = true) : (D.tup xs).val = true := by unfold D.val; exact valAll_iff.mpr h
theorem val_mkL {xs : List D} (h : ∀ d ∈ xs, d.val = true) : (D.rol xs).val = true := by unfold D.val; exact valAll_iff.mpr h
theorem sz_mk {n : Nat} {xs : List D} (hl : xs.length ≤ n) (h : ∀ d ∈ xs, d.szB n = true) : (D.tup xs).szB n = true := by
  unfold D.szB
  rw [decide_eq_true hl, Bool.true_and]; exact szAll_iff.mpr h
theorem sz_tup {n : Nat} {xs : List D} (h : (D.tup xs).szB n = true) : xs.length ≤ n ∧ ∀ d ∈ xs, d.szB n = true := by
  unfold D.szB at h
  rw [Bool.and_eq_true] at h
  exact ⟨of_decide_eq_true h.1, szAll_iff.mp h.2⟩
theorem mem_cutN {α : Type} {l : List α} {lo hi : Option Int} {a : α} (h : a ∈ cutN l lo hi) : a ∈ l := by
  unfold cutN at h
  exact List.mem_of_mem_drop (List.mem_of_mem_take h)
/-- values of drawn kinds, with other parts -/
def otherV (k : Nat) : VSp := drawV (fun d : D => d) (fun dl => ∃ d n, dl = [d, .int (k : Nat)] ∧ d.val = true ∧ d.szB n = true ∧ n + 1 ≤ 1000) (10 * (k + 1 : Nat)) (fun dl v => v.val = true ∧ ∀ d n, dl = [d, .int (k : Nat)] → d.szB n = true → 3 ≤ n → v.szB (n + 1) = true)
theorem len_otherV {k : Nat} : ∀ dl ms R, otherV k dl ms R → dl.length = 3 := by rintro dl ms R ⟨cells, c, dl', rfl, _, _, _, ⟨d, n, rfl, _⟩, _⟩; rfl
theorem Cmp.val (c : Cmp) : c.d.val = true := by
  refine val_mk fun d hd => ?_
  simp only [List.mem_cons, List.not_mem_nil, or_false] at hd
  rcases hd with rfl | rfl | rfl
  · rfl
  · refine val_mk fun d hd => ?_
    obtain ⟨r, _, rfl⟩ := List.mem_map.mp hd
    refine val_mk fun d hd => ?_
    obtain ⟨r, _, rfl⟩ := List.mem_map.mp hd
    rfl
  · refine val_mk fun d hd => ?_
    obtain ⟨r, _, rfl⟩ := List.mem_map.mp hd
    rfl
theorem Cmp.Ok.sz_ {c : Cmp} (ok : c.Ok) {n : Nat} (h1 : 15 ≤ n) (h2 : c.rows.length ≤ n) : c.d.szB n = true := by
  refine sz_mk (by show 3 ≤ n; omega) fun d hd => ?_
  simp only [List.mem_cons, List.not_mem_nil, or_false] at hd
  rcases hd with rfl | rfl | rfl
  · rfl
  · refine sz_mk (by rw [List.length_map]; exact h2) fun d hd => ?_
    obtain ⟨r, hr, rfl⟩ := List.mem_map.mp hd
    refine sz_mk (by rw [List.length_map, ok.wid r hr]; exact Nat.le_trans (sq15 ok.l3) h1) fun d hd => ?_
    obtain ⟨r, _, rfl⟩ := List.mem_map.mp hd
    rfl
  · refine sz_mk (by rw [List.length_map, ok.mkl]; exact h2) fun d hd => ?_
    obtain ⟨r, _, rfl⟩ := List.mem_map.mp hd
    rfl
/-! ## values shown and compared -/
mutual
def pyD : D → PyData
  | .bl b => .bool b
  | .int i => .int i
  | .str x => .str x
  | .tup ds => .tuple (pyAll ds)
  | .rol ds => .list (pyAll ds)
  | _ => .none
def pyAll : List D → List PyData
  | [] => []
  | d :: ds => pyD d :: pyAll ds
end
theorem pyAll_map : ∀ ds : List D, pyAll ds = ds.map pyD
  | [] => by unfold pyAll; rfl
  | d :: ds => by unfold pyAll; rw [pyAll_map ds]; rfl
/-- at most k deep, of at most the weight w -/
structure Sh (d : D) (k w : Nat) : Prop where
  py : ∀ ms, Py ms d (pyD d)
  sh : (pyD d).showable = true
  nd : (pyD d).hasDict = false
  dp : (pyD d).depth ≤ k
  ls : (pyD d).leavesShort 13 = true
  wt : (pyD d).weight ≤ w
  cl : (pyD d).canLay0 = true
theorem Sh.mono {d : D} {k w k' w' : Nat} (h : Sh d k w) (hk : k ≤ k') (hw : w ≤ w') : Sh d k' w' := ⟨h.py, h.sh, h.nd, Nat.le_trans h.dp hk, h.ls, Nat.le_trans h.wt hw, h.cl⟩
theorem Sh.non {k w : Nat} : Sh .non k w := ⟨fun _ => .non, rfl, rfl, Nat.zero_le _, rfl, Nat.zero_le _, rfl⟩
theorem Sh.bl {b : Bool} {k w : Nat} : Sh (.bl b) k w := ⟨fun _ => .bl b, rfl, rfl, Nat.zero_le _, rfl, Nat.zero_le _, rfl⟩
theorem Sh.int {i : Int} {k : Nat} (h1 : -999999999999 ≤ i) (h2 : i ≤ 999999999999) : Sh (.int i) k 40 where
  py := fun _ => .int i
  sh := by
    show decide (i.natAbs.log2 < 1920) = true
    refine decide_eq_true ?_
    by_cases h : i.natAbs = 0
    · rw [h]; decide
    · have : i.natAbs.log2 < 40 := (Nat.log2_lt h).mpr (by have : (2 : Nat) ^ 40 = 1099511627776 := by decide
                                                           omega)
      omega
  nd := rfl
  dp := Nat.zero_le _
  ls := by
    show decide ((PyData.shown (.int i)).length ≤ 13) = true
    exact decide_eq_true (PyData.shown_int_le2 h1 h2)
  wt := by
    show (if i == 0 then 0 else i.natAbs.log2 + 1) ≤ 40
    split
    · omega
    · rename_i h
      have h0 : i.natAbs ≠ 0 := by
        have : i ≠ 0 := by simpa using h
        omega
      have : i.natAbs.log2 < 40 := (Nat.log2_lt h0).mpr (by have : (2 : Nat) ^ 40 = 1099511627776 := by decide
                                                            omega)
      omega
  cl := rfl
def okS (x : Str) : Bool := (x.cps.toList.all fun c => decide (c < 16 ^ 8)) && PyData.strOk x
theorem Sh.str {x : Str} {k w : Nat} (h : okS x = true) (hl : x.length ≤ w) : Sh (.str x) k w := by
  unfold okS at h
  rw [Bool.and_eq_true] at h
  exact ⟨fun _ => .str x, rfl, rfl, Nat.zero_le _, h.1, hl, h.2⟩
theorem shAll {k w : Nat} : ∀ {ds : List D}, (∀ d ∈ ds, Sh d k w) → (∀ ms, PyAll ms ds (pyAll ds)) ∧ PyData.showableAll (pyAll ds) = true ∧ PyData.hasDictAll (pyAll ds) = false ∧ PyData.depthAll (pyAll ds) ≤ k ∧ PyData.leavesShortAll 13 (pyAll ds) = true ∧ PyData.weightAll (pyAll ds) ≤ ds.length * (w + 1) ∧ PyData.canLayAll0 (pyAll ds) = true
  | [], _ => ⟨fun _ => .nil, rfl, rfl, Nat.zero_le _, rfl, Nat.zero_le _, rfl⟩
  | d :: ds, h => by
    obtain ⟨a, b, c, e, f, g, l⟩ := shAll fun x hx => h x (List.mem_cons_of_mem _ hx)
    have hd := h d List.mem_cons_self
    unfold pyAll
    refine ⟨fun ms => .cons (hd.py ms) (a ms), ?_, ?_, ?_, ?_, ?_, ?_⟩
    · show (PyData.showable _ && PyData.showableAll _) = true
      rw [hd.sh, b]; rfl
    · show (PyData.hasDict _ || PyData.hasDictAll _) = false
      rw [hd.nd, c]; rfl
    · show max _ _ ≤ k
      have := hd.dp
      omega
    · show (PyData.leavesShort 13 _ && PyData.leavesShortAll 13 _) = true
      rw [hd.ls, f]; rfl
    · show PyData.weight _ + 1 + PyData.weightAll _ ≤ (ds.length + 1) * (w + 1)
      have := hd.wt
      rw [Nat.succ_mul]; omega
    · show (PyData.canLay0 _ && PyData.canLayAll0 _) = true
      rw [hd.cl, l]; rfl
theorem Sh.tup {ds : List D} {k w : Nat} (h : ∀ d ∈ ds, Sh d k w) : Sh (.tup ds) (k + 1) (ds.length * (w + 1)) := by
  obtain ⟨a, b, c, e, f, g, l⟩ := shAll h
  exact ⟨fun ms => .tup (a ms), b, c, Nat.succ_le_succ e, f, g, l⟩
theorem Sh.rol {ds : List D} {k w : Nat} (h : ∀ d ∈ ds, Sh d k w) : Sh (.rol ds) (k + 1) (ds.length * (w + 1)) := by
  obtain ⟨a, b, c, e, f, g, l⟩ := shAll h
  exact ⟨fun ms => .rol (a ms), b, c, Nat.succ_le_succ e, f, g, l⟩
section
variable {X : Cx} {B : Bs} {ms : List Ob} {Q : D → List Ob → Prop}
theorem shown_fits {p : PyData} {w : Nat} (ls : p.leavesShort 13 = true) (wt : p.weight ≤ w) (hw : w ≤ 1000000) : p.shown.length ≤ sizeLine := by
  have h := PyData.shown_le 13 (by decide) p ls
  have : (13 + 2) * p.weight + 13 ≤ 16777216 := by omega
  exact Nat.le_trans h this
theorem wc_reprD {d : D} {k w : Nat} (hgd : X.A.guards = some []) (hu : X.A.units + 70 < cLine) (h : Sh d k w) (hk : k ≤ 60) (hw : w ≤ 1000000) (q : Q (.str (pyD d).shown) ms) : WC X B ms (.builtin "repr") [d] Q :=
  wc_repr hgd hu (h.py ms) h.sh h.nd (Nat.le_trans h.dp (by omega)) (shown_fits h.ls h.wt hw) q
/-- the text of a list -/
def shownL (ds : List D) : Str := (PyData.list (pyAll ds)).shown
theorem wc_reprL {j : Nat} {ds : List D} {k w : Nat} (hgd : X.A.guards = some []) (hu : X.A.units + 70 < cLine) (hj : ms[j]? = some (.lst ds)) (h : ∀ d ∈ ds, Sh d k w) (hk : k ≤ 59) (hw : ds.length * (w + 1) ≤ 1000000) (q : Q (.str (shownL ds)) ms) : WC X B ms (.builtin "repr") [.obj j] Q := by
  obtain ⟨a, b, c, e, f, g, l⟩ := shAll h
  refine wc_repr hgd hu (.lst hj (a ms)) b c (Nat.le_trans (Nat.succ_le_succ e) (by omega)) (shown_fits (w := ds.length * (w + 1)) f g hw) q
theorem shaped_of {d : D} {k w : Nat} (h : Sh d k w) (hk : k ≤ 60) : SeqAt.shaped (pyD d) = true := by
  unfold SeqAt.shaped
  rw [h.cl, Bool.true_and]
  exact decide_eq_true (Nat.le_trans h.dp (by omega))
theorem wo_eqDD {d e : D} {k w k' w' : Nat} (hu : X.A.units + 64 < cLine) (h1 : Sh d k w) (h2 : Sh e k' w') (hk : k ≤ 60) (hk' : k' ≤ 60) (q : Q (.bl (PyData.eqv (pyD d) (pyD e))) ms) : WO X B ms (compareOp .Eq) d e Q :=
  wo_eqD hu (h1.py ms) (h2.py ms) (shaped_of h1 hk) (shaped_of h2 hk') q
theorem wo_neDD {d e : D} {k w k' w' : Nat} (hu : X.A.units + 64 < cLine) (h1 : Sh d k w) (h2 : Sh e k' w') (hk : k ≤ 60) (hk' : k' ≤ 60) (q : Q (.bl (!PyData.eqv (pyD d) (pyD e))) ms) : WO X B ms (compareOp .NotEq) d e Q :=
  wo_neD hu (h1.py ms) (h2.py ms) (shaped_of h1 hk) (shaped_of h2 hk') q
theorem eqv_self {d : D} {k w : Nat} (h : Sh d k w) : PyData.eqv (pyD d) (pyD d) = true := SeqAt.eqv_refl _ h.cl
/-- the same value twice -/
theorem wo_neSame {d : D} {k w : Nat} (hu : X.A.units + 64 < cLine) (h : Sh d k w) (hk : k ≤ 60) (q : Q (.bl false) ms) : WO X B ms (compareOp .NotEq) d d Q :=
  wo_neDD hu h h hk hk (by rw [eqv_self h]; exact q)
theorem wo_eqSame {d : D} {k w : Nat} (hu : X.A.units + 64 < cLine) (h : Sh d k w) (hk : k ≤ 60) (q : Q (.bl true) ms) : WO X B ms (compareOp .Eq) d d Q :=
  wo_eqDD hu h h hk hk (by rw [eqv_self h]; exact q)
end
theorem sh_bad {x : D} {s : Str} {w : Nat} (hx : Sh x 0 40) (hs : okS s = true) (hl : s.length ≤ 40) : Sh (badD x s) 1 100 := by
  refine (Sh.tup (k := 0) (w := 40) fun d hd => ?_).mono (Nat.le_refl _) (show 2 * (40 + 1) ≤ 100 by decide)
  simp only [List.mem_cons, List.not_mem_nil, or_false] at hd
  rcases hd with rfl | rfl
  · exact hx
  · exact Sh.str hs hl
theorem sh_err (d : D) (n : Nat) (hn : n ≤ 100000) (hz : d.szB n = true) : Sh (errD d) 1 100 := by
  have h1 : Sh (badD .non "letters") 1 100 := sh_bad (w := 0) Sh.non (by decide +kernel) (by decide +kernel)
  have h2 : Sh (badD .non "rows") 1 100 := sh_bad (w := 0) Sh.non (by decide +kernel) (by decide +kernel)
  have h3 : Sh (badD .non "verdicts") 1 100 := sh_bad (w := 0) Sh.non (by decide +kernel) (by decide +kernel)
  have h4 : Sh (badD .non "comp") 1 100 := sh_bad (w := 0) Sh.non (by decide +kernel) (by decide +kernel)
  unfold errD
  split
  · rename_i l r m
    unfold err3
    split
    · exact h1
    · split
      · rename_i rs
        split
        · exact h2
        · unfold errR
          split
          · rename_i k hk
            have hl : k < rs.length := (List.findIdx?_eq_some_iff_getElem.mp hk).1
            have hl2 : rs.length ≤ n := (sz_tup ((sz_tup hz).2 (.tup rs) (by simp))).1
            exact sh_bad (w := 0) (Sh.int (by omega) (by omega)) (by decide +kernel) (by decide +kernel)
          · split
            · exact Sh.non
            · exact h3
      · exact h2
  · exact h4
end VL

namespace VL
open PySem PySem.Spec PyProof.Rows L2
theorem wo_powC {X : Cx} {B : Bs} {ms : List Ob} {Q : D → List Ob → Prop} {i j : Int} (r : Int) (hr : i ^ j.toNat = r) (hc : CPow i j) (q : Q (.int r) ms) : WO X B ms (binaryOp .Pow) (.int i) (.int j) Q := wo_powI hc (by rw [hr]; exact q)
/-- a cut behind a statement -/
theorem ws_mid {X : Cx} {B : Bs} {fl : Nat} {ds : List (Option D)} {ms : List Ob} {st : Stmt} {E : En} (Mid : List (Option D) → List Ob → Prop) (h1 : WS X B fl ds ms st ⟨Mid, E.rt, E.bk, E.ct⟩) (h2 : ∀ ds' ms', Mid ds' ms' → E.nx ds' ms') : WS X B fl ds ms st E :=
  .mk fun σ H θ hf S L => (h1 σ H θ hf S L).imp (fun _ _ z => nxOf.imp h2 z) (fun _ _ z => z) (fun _ _ z => z) (fun _ _ z => z)
section
variable {X : Cx} {B : Bs} {ds : List (Option D)} {ms : List Ob}
/-- expressions that leave the store as it is -/
inductive PureAll (X : Cx) (B : Bs) (ds : List (Option D)) (ms : List Ob) : List Expr → List D → Prop
  | nil : PureAll X B ds ms [] []
  | cons {e : Expr} {es : List Expr} {d : D} {dl : List D} (h : WE X B ds ms e fun x m => x = d ∧ m = ms) (r : PureAll X B ds ms es dl) (hs : starEach (e :: es) X.env = (false, eval e X.env) :: starEach es X.env := by rfl) : PureAll X B ds ms (e :: es) (d :: dl)
theorem wa_pures {Q : List D → List Ob → Prop} : ∀ {es : List Expr} {dl : List D}, PureAll X B ds ms es dl → Q dl ms → WA X B ds ms es Q := fun {es dl} h => by
  induction h generalizing Q with
  | nil => exact fun q => wa_nil q
  | cons h r hs ih =>
    intro q
    refine wa_cons (we_imp h fun x m ⟨e1, e2⟩ => ?_) hs
    subst e1; subst e2
    exact ih q
end
/-- the slots speak of the first n objects only -/
def clOs (n : Nat) : List (Option D) → Bool
  | [] => true
  | some d :: r => d.cl n && clOs n r
  | none :: r => clOs n r
theorem clOs_mem {n : Nat} : ∀ {ds : List (Option D)}, clOs n ds = true → ∀ d, some d ∈ ds → d.cl n = true
  | some e :: r, h, d, hm => by
    unfold clOs at h
    rw [Bool.and_eq_true] at h
    rcases List.mem_cons.mp hm with z | z
    · cases z; exact h.1
    · exact clOs_mem h.2 d z
  | none :: r, h, d, hm => by
    unfold clOs at h
    rcases List.mem_cons.mp hm with z | z
    · cases z
    · exact clOs_mem h d z
/-- all but the deck is forgotten -/
theorem wss_dk {X : Cx} {B : Bs} {fl : Nat} {ds : List (Option D)} {st : List Stmt} {E : En} {cells : List Int} {c : Int} {R : List Ob} (hf : fl ≤ 2) (hc : clOs 2 ds = true) (h : WSs X B fl ds (dk cells c) st E) : WSs X B fl ds (dk cells c ++ R) st E :=
  wss_drop 2 (by simp [dk]) hf (dk_cl cells c (by decide)) ds rfl (fun i d hd => ⟨hd, clOs_mem hc d (List.mem_of_getElem? hd)⟩) h
theorem dk_clR {cells : List Int} {c : Int} {n : Nat} {R : List Ob} (h : 1 ≤ n) (hR : R.all (Ob.cl n) = true) : (dk cells c ++ R).all (Ob.cl n) = true := by
  rw [List.all_append, dk_cl cells c h, hR]; rfl
theorem sh_cols {L : Nat} (h1 : 1 ≤ L) (h3 : L ≤ 3) : Sh (.tup ((colsN L).map dS)) 1 45 := by
  have key : ∀ L ∈ [1, 2, 3], ∀ x ∈ colsN L, okS (mkS x) = true ∧ (mkS x).length ≤ 2 := by decide +kernel
  refine (Sh.tup (k := 0) (w := 2) fun d hd => ?_).mono (Nat.le_refl _) (by rw [List.length_map, cols_len h1 h3]; have := sq15 h3; omega)
  obtain ⟨x, hx, rfl⟩ := List.mem_map.mp hd
  obtain ⟨a, b⟩ := key L (by rcases lcase h1 h3 with rfl | rfl | rfl <;> simp) x hx
  exact Sh.str a b
theorem hu64 {k : Nat} {A : Around} (hr : Room k A) : A.units + 64 < cLine := by have := hr.un; omega
end VL

namespace VL
open PySem PySem.Spec PyProof.Rows L2
/-- a tuple of texts that stands with the module -/
def KTup (K : PySem.W.Frag) (A : Addr) (ys : List Str) : Prop := ∃ (o : Obj) (its : Array Value) (n : Nat), K.lookup A = some o ∧ o.cls = .type "tuple" ∧ o.dict = none ∧ o.data = .seq its n ∧ its.size ≤ sizeLine ∧ Vals (ys.map V.str) its.toList
section
variable {X : Cx} {B : Bs} {ds : List (Option D)} {ms : List Ob} {Q : D → List Ob → Prop} {a b c : Expr} {pos : Pos}
/-! ## more of tuples and texts -/
theorem wo_repT {xs : List D} {k : Int} (hne : xs ≠ []) (h2 : 2 ≤ k) (hk : k ≤ 1000) (hx : xs.length ≤ 1000) (q : Q (.tup (List.replicate k.toNat xs).flatten) ms) : WO X B ms (binaryOp .Mult) (.tup xs) (.int k) Q :=
  WO.of op_repT fun H θ x y S r1 r2 => by
    obtain ⟨p, vs, rfl, s, rs⟩ := rep_tup r1
    rw [rep_int r2]
    have rr : ∀ n : Nat, Reps X.K θ H (List.replicate n xs).flatten (List.replicate n vs).flatten := by
      intro n
      induction n with
      | zero => exact mk_nil
      | succ n ih => rw [List.replicate_succ, List.replicate_succ, List.flatten_cons, List.flatten_cons]; exact rs.append ih
    refine ⟨p, k, vs, rfl, rfl, s, fun e => hne ?_, h2, hk, by rw [rs.length]; exact hx, fun l hl => pv_tup S (rr _) hl q⟩
    have := rs.length
    rw [e] at this
    exact List.eq_nil_of_length_eq_zero this.symm
theorem wx_R {xs : List D} {i : Int} {d : D} (h : atI xs i = some d) (q : Q d ms) : WX X B ms a b (.rol xs) (.int i) Q := WX.of ix_list fun H θ x y S r1 r2 => by
  obtain ⟨p, vs, rfl, s, rs⟩ := rep_rol r1
  obtain ⟨v, e, rv⟩ := rs.atI h
  exact ⟨p, vs, i, v, rfl, rep_int r2, s.sq, e, pv_same S rv q⟩
theorem wm_find {x y : Str} (q : Q (.int (Txt.find x y)) ms) : WM X B ms "str.find" (.str x) [.str y] Q := WM.of mt_find fun H θ z vs S r r0 => by
  obtain ⟨v, rfl, r1⟩ := reps1 r0
  exact ⟨x, y, rep_str r, by rw [rep_str r1], pv_same S mk_int q⟩
theorem reps_strs {K : PySem.W.Frag} {θ : List Addr} {H : Hp} : ∀ ys : List Str, Reps K θ H (ys.map D.str) (ys.map V.str)
  | [] => mk_nil
  | y :: r => mk_cons mk_str (reps_strs r)
theorem wm_split {x y : Str} (hy : (y.length == 0) = false) (hx : x.length + 2 ≤ sizeLine) (q : Q (.obj ms.length) (ms ++ [.lst ((Txt.split x y).map D.str)])) : WM X B ms "str.split" (.str x) [.str y] Q := WM.of mt_split fun H θ z vs S r r0 => by
  obtain ⟨v, rfl, r1⟩ := reps1 r0
  exact ⟨x, y, rep_str r, by rw [rep_str r1], hy, hx, fun p hp => pv_lst S (reps_strs _) hp q⟩
theorem wm_indexT {xs : List Str} {y : Str} {j : Nat} (hj : xs[j]? = some y) (hno : ∀ (i : Nat), i < j → xs[i]? ≠ some y) (q : Q (.int (j : Nat)) ms) : WM X B ms "tuple.index" (.tup (xs.map D.str)) [.str y] Q := WM.of mt_tup_index fun H θ z vs S r r0 => by
  obtain ⟨v, rfl, r1⟩ := reps1 r0
  obtain ⟨a, ws, rfl, s, rs⟩ := rep_tup r
  cases rs.strs
  exact ⟨a, xs, y, j, rfl, by rw [rep_str r1], s, hj, hno, pv_same S mk_int q⟩
theorem wc_strI {i : Int} (hi : i.natAbs.log2 < 1920) (q : Q (.str (toString i)) ms) : WC X B ms (.type "str") [.int i] Q := WC.of call_str_int fun H θ vs S r0 => by
  obtain ⟨v, rfl, r⟩ := reps1 r0
  exact ⟨i, by rw [rep_int r], hi, pv_same S mk_str q⟩
theorem wc_intS {x : Str} {n : Int} (hn : PySem.intText? x = some n) (hl : x.length ≤ 640) (q : Q (.int n) ms) : WC X B ms (.type "int") [.str x] Q := WC.of call_int_str fun H θ vs S r0 => by
  obtain ⟨v, rfl, r⟩ := reps1 r0
  exact ⟨x, n, by rw [rep_str r], hn, hl, pv_same S mk_int q⟩
theorem inV_strs {y : Str} : ∀ ys : List Str, inV (.str y) (ys.map V.str) = ys.any (fun z => z == y)
  | [] => rfl
  | z :: r => by
    show (eqV (.str z) (.str y) || inV (.str y) (r.map V.str)) = _
    rw [inV_strs r]; rfl
theorem flat_strs (ys : List Str) : (ys.map V.str).all flatV = true := by
  rw [List.all_map]; exact List.all_eq_true.mpr fun _ _ => rfl
theorem wo_inT {xs : List Str} {y : Str} (q : Q (.bl (xs.any fun z => z == y)) ms) : WO X B ms (compareOp .In) (.str y) (.tup (xs.map D.str)) Q := WO.of op_in_seq fun H θ u v S r1 r2 => by
  obtain ⟨a, ws, rfl, s, rs⟩ := rep_tup r2
  cases rs.strs
  rw [rep_str r1]
  exact ⟨a, _, rfl, .inr s, rfl, flat_strs _, by rw [inV_strs]; exact pv_same S mk_bl q⟩
theorem wo_notInT {xs : List Str} {y : Str} (q : Q (.bl (!xs.any fun z => z == y)) ms) : WO X B ms (compareOp .NotIn) (.str y) (.tup (xs.map D.str)) Q := WO.of op_notIn_seq fun H θ u v S r1 r2 => by
  obtain ⟨a, ws, rfl, s, rs⟩ := rep_tup r2
  cases rs.strs
  rw [rep_str r1]
  exact ⟨a, _, rfl, .inr s, rfl, flat_strs _, by rw [inV_strs]; exact pv_same S mk_bl q⟩
theorem wo_notInS {n : Nat} {z : Str} (q : Q (.bl (!decide (n ∈ z.cps.toList))) ms) : WO X B ms (compareOp .NotIn) (dS [n]) (.str z) Q := WO.of op_notIn_sign fun H θ u v S r1 r2 =>
  ⟨n, z, rep_str r1, rep_str r2, pv_same S mk_bl q⟩
theorem wo_neLS {k l : Nat} {xs ys : List D} {n w : Nat} (hu : X.A.units + 64 < cLine) (h1 : ms[k]? = some (.lst xs)) (h2 : ms[l]? = some (.lst ys)) : True := trivial
/-- a constant tuple of texts of the module -/
theorem we_globT {x : Str} {A : Addr} {ys : List Str} (hm : X.mg x = some (.ref A)) (hk : KTup X.K A ys) (hg : Gl X x) (q : Q (.tup (ys.map D.str)) ms) (hd : (x == ("__debug__" : Str)) = false := by decide) : WE X B ds ms (.Name x pos) Q :=
  we_glob (d := .tup (ys.map D.str)) hm ⟨.ref A, rfl, fun _ _ => by
    obtain ⟨o, its, n, h1, h2, h3, h4, h5, h6⟩ := hk
    unfold Rep; exact ⟨A, _, rfl, .inr ⟨o, its, n, h1, h2, h4, h5, h6⟩, reps_strs ys⟩⟩ q hg hd
/-- a, b = a list of two -/
theorem wg_lst {es : List Expr} {k j : Nat} {dl : List D} {N : List (Option D) → List Ob → Prop} (hc : X.calm = true) (hn : noStar es = true) (hj : ms[j]? = some (.lst dl)) (hl : dl.length = (assignEach es X.env).length) (h : WGs X B ds ms es dl N)
    (hst : (assignEach es X.env).findIdx? (·.1) = none := by rfl) : WG X B ds ms (.Tuple es k pos) (.obj j) N :=
  WG.pg (pg_unl hc pgs_can rfl hst) fun σ H θ v S L r => by
    obtain ⟨a, e, rfl⟩ := rep_obj r
    obtain ⟨vs, s, rs⟩ := S.obs j _ a hj e
    exact ⟨a, vs, rfl, SqL.of s, by rw [rs.length]; exact hl, h.can es (noStar_each es hn) σ H θ vs S L rs⟩
/-- a constant tuple of texts, asked for a place -/
theorem we_tupIndex {x : Str} {p apos : Pos} {A : Addr} {ys : List Str} {e : Expr} (hm : X.mg x = some (.ref A)) (hk : KTup X.K A ys) (hg : Gl X x)
    (h : WE X B ds ms e fun d m => ∃ (y : Str) (j : Nat), d = .str y ∧ ys[j]? = some y ∧ (∀ (i : Nat), i < j → ys[i]? ≠ some y) ∧ Q (.int (j : Nat)) m)
    (hd : (x == ("__debug__" : Str)) = false := by decide) (hbase : attributeBase (.Name x p) "index" X.env (eval (.Name x p) X.env) = eval (.Name x p) X.env := by rfl)
    (hfew : ((backTo pos (starEach (e :: []) X.env)).all (fun x => !x.1) && (backToKw pos (keywordEach [] X.env)).all (fun x => x.1.isSome)
      && decide ((e :: ([] : List Expr)).length + ([] : List Keyword).length + (if ([] : List Keyword).isEmpty then 0 else 1) < 30)) = true := by rfl)
    (hline : (apos.endLine == pos.line) = true := by rfl) (hs : starEach (e :: []) X.env = (false, eval e X.env) :: starEach [] X.env := by rfl) (hpl : (backTo pos (starEach [] X.env)).any (·.1) = false := by rfl) :
    WE X B ds ms (.Call (.Attribute (.Name x p) "index" apos) [e] [] pos) Q := by
  obtain ⟨o, its, n, h1, h2, h3, h4, h5, h6⟩ := hk
  refine WE.pe (pe_bm PySem.F.plainAttrs_tuple PySem.F.slot_tuple_index PySem.F.type_tuple_index mt_tup_index (pe_glob hg hm (v := .ref A) rfl hd) (pa_cons pe_can pa_nil hs) hbase hfew hline hs hpl) fun σ H θ S L => ?_
  refine ⟨.inr (.inl ⟨rfl, o, h1, h2, h3⟩), h.bind S L fun d m v H1 more q r im S1 L1 => ?_⟩
  obtain ⟨y, j, rfl, hj, hno, q⟩ := q
  cases rep_str r
  exact ⟨A, ys, y, j, rfl, rfl, .inr ⟨o, its, n, h1, h2, h4, h5, h6⟩, hj, hno, PV.trans im (pv_same S1 mk_int q)⟩
end
end VL

namespace VL
open PySem PySem.Spec PyProof.Rows L2 TL
/-! ## comprehensions whose turns leave new objects behind -/
theorem lc_mapK {α : Type} {X : Cx} {ds : List (Option D)} {scope : Scope} {vs : List Nat} {app : D → List (Option D) → Option (List (Option D))} {elt : Expr} {G : List Ob → Prop} {m : List Ob} {Q : D → List Ob → Prop} {items : List D} (xs : List α) (e : α → D) (f : α → D) (hi : items = xs.map e)
    (hz : xs.length ≤ sizeLine) (hG : G m)
    (step : ∀ a ∈ xs, ∃ ds', app (e a) (wipeD ds vs) = some ds' ∧ ∀ (B : Bs) (s : Shared) (H : Hp) (C : Addr) (cl : List (Str × Addr)) (fp : List Addr), WE (X.blk s H scope (compEnvC scope cl C X.env) fp) B ds' m elt fun y m4 => y = f a ∧ ∃ R, m4 = m ++ R) (hcl : m.all (Ob.cl m.length) = true) (hf : ∀ a ∈ xs, (f a).im = true)
    (q : Q (.obj m.length) (m ++ [.lst (xs.map f)])) : LcWord X ds scope vs app [] elt items G m Q := by
  subst hi
  refine ⟨fun i acc m' => acc = (xs.take i).map f ∧ m' = m, ⟨rfl, rfl⟩, fun i acc m' ⟨_, h⟩ => h ▸ hG, fun i d acc m' hi ⟨ha, hm'⟩ => ?_, fun acc m' ⟨ha, hm'⟩ _ => ?_⟩
  · subst hm'
    rw [List.getElem?_map] at hi
    obtain ⟨a, ea, rfl⟩ := Option.map_eq_some_iff.mp hi
    have hlt : i < xs.length := (List.getElem?_eq_some_iff.mp ea).1
    have hmem : a ∈ xs := List.mem_of_getElem? ea
    obtain ⟨ds', h1, h2⟩ := step a hmem
    refine ⟨by rw [ha, List.length_map, List.length_take]; omega, ds', h1, fun B s H C cl fp => ⟨fun _ s H C cl fp => ?_, fun h => by cases h⟩⟩
    refine we_imp (h2 B s H C cl fp) fun y m4 ⟨hy, R, ht⟩ => .inr ⟨by rw [ht]; simp, by rw [ht, List.take_left]; exact hcl, im_cl (by rw [hy]; exact hf a hmem), ?_, by rw [ht, List.take_left]⟩
    rw [hy, ha, List.take_succ, ea, List.map_append]; rfl
  · subst hm'
    rw [ha, List.length_map, List.take_length]
    exact q
theorem kd_take {cells2 : List Int} {c2 : Int} {cells' : List Int} {c' : Int} {rest R : List Ob} : (dk cells2 c2 ++ (rest ++ R)).take (dk cells' c' ++ rest).length = dk cells2 c2 ++ rest := by
  rw [← List.append_assoc]
  exact List.take_left' (by simp [dk])
theorem kd_cl {cells2 : List Int} {c2 : Int} {cells' : List Int} {c' : Int} {rest R : List Ob} (h : ∀ cells' c', (dk cells' c' ++ rest).all (Ob.cl (rest.length + 2)) = true) : ((dk cells2 c2 ++ (rest ++ R)).take (dk cells' c' ++ rest).length).all (Ob.cl (dk cells' c' ++ rest).length) = true := by
  rw [kd_take]
  have : (dk cells' c' ++ rest).length = rest.length + 2 := by simp [dk]
  rw [this]; exact h _ _
theorem lc_drawK {α β : Type} {X : Cx} {ds : List (Option D)} {scope : Scope} {vs : List Nat} {app : D → List (Option D) → Option (List (Option D))} {elt : Expr} {G : List Ob → Prop} {m : List Ob} {Q : D → List Ob → Prop} {items : List D} {cells : List Int} {c : Int} (rest : List Ob) (xs : List α) (e : α → D) (f : β → D) (n : Nat) (Pr : α → β → Prop) (hi : items = xs.map e)
    (hm : m = dk cells c ++ rest) (ok : DkOk cells c) (hn : c + n * xs.length ≤ dkMost) (hz : xs.length ≤ sizeLine) (hG : ∀ cells' c', G (dk cells' c' ++ rest)) (hcl : ∀ cells' c', (dk cells' c' ++ rest).all (Ob.cl (rest.length + 2)) = true) (hf : ∀ b, (f b).im = true)
    (step : ∀ a ∈ xs, ∃ ds', app (e a) (wipeD ds vs) = some ds' ∧ ∀ cells' c', DkOk cells' c' → c ≤ c' → c' + n ≤ dkMost → ∀ (B : Bs) (s : Shared) (H : Hp) (C : Addr) (cl : List (Str × Addr)) (fp : List Addr), WE (X.blk s H scope (compEnvC scope cl C X.env) fp) B ds' (dk cells' c' ++ rest) elt fun y m4 => ∃ b cells2 c2, y = f b ∧ DkOk cells2 c2 ∧ c' ≤ c2 ∧ c2 ≤ c' + n ∧ Pr a b ∧ ∃ R, m4 = dk cells2 c2 ++ (rest ++ R))
    (q : ∀ (bs : List β) (cells' : List Int) (c' : Int), bs.length = xs.length → (∀ (i : Nat) a b, xs[i]? = some a → bs[i]? = some b → Pr a b) → DkOk cells' c' → c ≤ c' → c' ≤ c + n * xs.length → Q (.obj (dk cells' c' ++ rest).length) (dk cells' c' ++ rest ++ [.lst (bs.map f)])) : LcWord X ds scope vs app [] elt items G m Q := by
  subst hi; subst hm
  refine ⟨fun i acc m' => ∃ (bs : List β) (cells' : List Int) (c' : Int), bs.length = i ∧ (∀ (j : Nat) a b, xs[j]? = some a → bs[j]? = some b → Pr a b) ∧ DkOk cells' c' ∧ c ≤ c' ∧ c' ≤ c + n * i ∧ acc = bs.map f ∧ m' = dk cells' c' ++ rest,
    ⟨[], cells, c, rfl, fun j a b _ h => by simp at h, ok, Int.le_refl _, by simp, rfl, rfl⟩, fun i acc m' ⟨bs, cells', c', _, _, _, _, _, _, h⟩ => h ▸ hG cells' c', fun i d acc m' hi h => ?_, fun acc m' h _ => ?_⟩
  · obtain ⟨bs, cells', c', hl, hP, ok', h1, h2, ha, rfl⟩ := h
    rw [List.getElem?_map] at hi
    obtain ⟨a, ea, rfl⟩ := Option.map_eq_some_iff.mp hi
    have hlt : i < xs.length := (List.getElem?_eq_some_iff.mp ea).1
    have hmul : (n : Int) * i + n ≤ n * xs.length := by
      have : (n : Int) * i + n = n * (i + 1 : Nat) := by rw [Int.natCast_add, Int.mul_add]; simp
      rw [this]
      exact Int.mul_le_mul_of_nonneg_left (by omega) (by omega)
    obtain ⟨ds', e1, st⟩ := step a (List.mem_of_getElem? ea)
    refine ⟨by rw [ha, List.length_map, hl]; omega, ds', e1, fun B s H C cl fp => ⟨fun _ s H C cl fp => ?_, fun h => by cases h⟩⟩
    refine we_imp (st cells' c' ok' h1 (by omega) B s H C cl fp) fun y m4 ⟨b, cells2, c2, ey, ok2, g1, g2, hb, R, em⟩ => .inr ⟨by rw [em]; simp [dk], by rw [em]; exact kd_cl hcl, im_cl (by rw [ey]; exact hf b), bs ++ [b], cells2, c2, by rw [List.length_append, hl]; rfl, fun j a' b' g3 g4 => ?_, ok2, by omega, ?_, by rw [ha, ey, List.map_append]; rfl, by rw [em]; exact kd_take⟩
    · by_cases hj : j < bs.length
      · rw [List.getElem?_append_left hj] at g4
        exact hP j a' b' g3 g4
      · rw [List.getElem?_append_right (by omega)] at g4
        have : j - bs.length = 0 := by
          have := (List.getElem?_eq_some_iff.mp g4).1
          simp at this; omega
        have hj' : j = i := by omega
        subst hj'
        rw [this] at g4
        rw [ea] at g3
        cases g3; cases g4
        exact hb
    · have : (n : Int) * ((i + 1 : Nat) : Int) = n * i + n := by rw [Int.natCast_add, Int.mul_add]; simp
      rw [this]; omega
  · obtain ⟨bs, cells', c', hl, hP, ok', h1, h2, rfl, rfl⟩ := h
    rw [List.length_map] at hl h2
    exact q bs cells' c' hl hP ok' h1 h2
/-! ## texts of comparisons -/
def wordS (v : Int) : Str := if v = -1 then "less" else if v = 0 then "same" else "more"
def numS (n : Nat) : Str := toString (n : Int)
def partsS (r : List Nat) (v : Int) : List Str := "state" :: (r.map numS ++ [wordS v])
def lineS (r : List Nat) (v : Int) : Str := Txt.join " " (partsS r v)
def headS (L : Nat) : Str := if L = 1 then "letters a" else if L = 2 then "letters ab" else "letters abc"
def linesS (c : Cmp) : List Str := headS c.L :: (c.rows.zip c.marks).map fun p => lineS p.1 p.2
def textS (c : Cmp) : Str := Txt.join "\n" (linesS c)
theorem mem_joinL {S : List Nat} {x : Nat} : ∀ {ps : List (List Nat)}, x ∈ joinL S ps → x ∈ S ∨ ∃ p ∈ ps, x ∈ p
  | [p], h => .inr ⟨p, List.mem_cons_self, h⟩
  | p :: q :: r, h => by
    rcases List.mem_append.mp h with h | h
    · exact .inr ⟨p, List.mem_cons_self, h⟩
    · rcases List.mem_append.mp h with h | h
      · exact .inl h
      · rcases mem_joinL h with z | ⟨y, hy, z⟩
        · exact .inl z
        · exact .inr ⟨y, List.mem_cons_of_mem _ hy, z⟩
theorem joinL_len {S : List Nat} {b : Nat} : ∀ {ps : List (List Nat)}, (∀ p ∈ ps, p.length ≤ b) → (joinL S ps).length ≤ ps.length * (b + S.length)
  | [], _ => Nat.zero_le _
  | [p], h => by
    show p.length ≤ 1 * (b + S.length)
    have := h p List.mem_cons_self
    omega
  | p :: q :: r, h => by
    have h1 := h p List.mem_cons_self
    have h2 := joinL_len (S := S) (ps := q :: r) fun x hx => h x (List.mem_cons_of_mem _ hx)
    show (p ++ (S ++ joinL S (q :: r))).length ≤ (r.length + 1 + 1) * (b + S.length)
    rw [List.length_append, List.length_append, Nat.succ_mul]
    have h3 : (q :: r).length * (b + S.length) = (r.length + 1) * (b + S.length) := rfl
    omega
theorem joinL_app {S : List Nat} {w : List Nat} : ∀ {ps : List (List Nat)}, ps ≠ [] → joinL S (ps ++ [w]) = joinL S ps ++ (S ++ w)
  | [], h => absurd rfl h
  | [p], _ => rfl
  | p :: q :: r, _ => by
    show p ++ (S ++ joinL S (q :: r ++ [w])) = (p ++ (S ++ joinL S (q :: r))) ++ (S ++ w)
    rw [joinL_app (ps := q :: r) (by simp), List.append_assoc, List.append_assoc]
theorem join_tl (y : Str) (ps : List Str) : tl (Txt.join y ps) = joinL (tl y) (ps.map tl) := by rw [join_eq, tl_join]
theorem tl_inj' {x y : Str} (h : tl x = tl y) : x = y := ext_tl h
theorem tl_len (x : Str) : (tl x).length = x.length := by show x.cps.toList.length = x.cps.size; simp
theorem wordS_free {v : Int} {k : Nat} (h : k = 10 ∨ k = 32) : k ∉ tl (wordS v) := by
  unfold wordS
  split
  · rcases h with rfl | rfl <;> decide +kernel
  · split
    · rcases h with rfl | rfl <;> decide +kernel
    · rcases h with rfl | rfl <;> decide +kernel
theorem numS_free {n k : Nat} (h : k = 10 ∨ k = 32) : k ∉ tl (numS n) := int_text_free' k (by rcases h with rfl | rfl <;> decide) n
theorem parts_free {r : List Nat} {v : Int} {k : Nat} (h : k = 10 ∨ k = 32) : ∀ p ∈ partsS r v, k ∉ tl p := fun p hp => by
  rcases List.mem_cons.mp hp with rfl | hp
  · rcases h with rfl | rfl <;> decide +kernel
  · rcases List.mem_append.mp hp with hp | hp
    · obtain ⟨n, _, rfl⟩ := List.mem_map.mp hp
      exact numS_free h
    · rw [List.mem_singleton.mp hp]; exact wordS_free h
theorem line_split (r : List Nat) (v : Int) : Txt.split (lineS r v) " " = partsS r v :=
  split_join (s := 32) (S := []) (by decide +kernel) (by decide +kernel) (by simp [partsS]) (parts_free (.inr rfl))
theorem line_free {r : List Nat} {v : Int} : 10 ∉ tl (lineS r v) := fun h => by
  unfold lineS at h
  rw [join_tl] at h
  rcases mem_joinL h with z | ⟨p, hp, z⟩
  · revert z; decide +kernel
  · obtain ⟨q, hq, rfl⟩ := List.mem_map.mp hp
    exact parts_free (.inl rfl) q hq z
theorem head_free {L : Nat} : 10 ∉ tl (headS L) := by
  unfold headS
  split
  · decide +kernel
  · split <;> decide +kernel
theorem text_split (c : Cmp) : Txt.split (textS c) "\n" = linesS c :=
  split_join (s := 10) (S := []) (by decide +kernel) (by decide +kernel) (by simp [linesS]) fun p hp => by
    rcases List.mem_cons.mp hp with rfl | hp
    · exact head_free
    · obtain ⟨q, _, rfl⟩ := List.mem_map.mp hp
      exact line_free
theorem numS_len {n : Nat} (h : n < 10 ^ 10) : (numS n).length ≤ 10 := PySem.W.KT.len_num (by omega) (by omega)
theorem wordS_len (v : Int) : (wordS v).length = 4 := by
  unfold wordS
  split
  · decide +kernel
  · split <;> decide +kernel
theorem part_len {r : List Nat} {v : Int} (h : ∀ n ∈ r, n < 4096) : ∀ p ∈ partsS r v, p.length ≤ 10 := fun p hp => by
  rcases List.mem_cons.mp hp with rfl | hp
  · decide +kernel
  · rcases List.mem_append.mp hp with hp | hp
    · obtain ⟨n, hn, rfl⟩ := List.mem_map.mp hp
      exact numS_len (Nat.lt_trans (h n hn) (by decide))
    · rw [List.mem_singleton.mp hp, wordS_len]; decide
theorem line_len {r : List Nat} {v : Int} (h : ∀ n ∈ r, n < 4096) (hl : r.length ≤ 15) : (lineS r v).length ≤ 187 := by
  rw [← tl_len]
  unfold lineS
  rw [join_tl]
  refine Nat.le_trans (joinL_len (b := 10) fun p hp => ?_) ?_
  · obtain ⟨q, hq, rfl⟩ := List.mem_map.mp hp
    rw [tl_len]; exact part_len h q hq
  · rw [List.length_map]
    have e : (tl " ").length = 1 := by decide +kernel
    rw [e]
    have : (partsS r v).length = r.length + 2 := by simp [partsS]
    rw [this]; omega
/-- whether a word writes a number of at most m figures -/
def figs : List Nat := ("0123456789" : Str).cps.toList
def figB (l : List Nat) (m : Int) : Bool := (decide ((1 : Int) ≤ l.length) && decide ((l.length : Int) ≤ m)) && (l.filter fun c => !decide (c ∈ figs)).isEmpty && (decide (mkS l = "0") || !decide (mkS (l.take 1) = "0"))
def wordL : List Str := ["less", "same", "more"]
def headL : List Str := ["letters a", "letters ab", "letters abc"]
/-- whether words are those of a state's line -/
def wordsB (ws : List Str) : Bool := (!decide ((ws.length : Int) < 3) && decide (ws.getD 0 "" = "state") && wordL.any fun z => z == ws.getLastD "") && ((cutN ws (some 1) (some (-1))).filter fun x => !figB (tl x) 9).isEmpty
theorem num_fig {n : Nat} (h : n < 400) : figB (tl (numS n)) 9 = true := by
  have key : ∀ n ∈ List.range 400, figB (tl (numS n)) 9 = true := by decide +kernel
  exact key n (List.mem_range.mpr h)
theorem cut_mid {α : Type} (a z : α) (l : List α) : cutN (a :: (l ++ [z])) (some 1) (some (-1)) = l := by
  unfold cutN
  have e1 : HT.sIx (a :: (l ++ [z])).length 0 (some 1) = 1 := by
    rw [show (some (1 : Int)) = some ((1 : Nat) : Int) from rfl, HT.sIx_nat]; simp
  have e2 : HT.sIx (a :: (l ++ [z])).length (a :: (l ++ [z])).length (some (-1)) = l.length + 1 := by
    show (if (-1 : Int) < 0 then ((-1 : Int) + ((a :: (l ++ [z])).length : Int)).toNat else min (-1 : Int).toNat (a :: (l ++ [z])).length) = l.length + 1
    rw [if_pos (by decide), List.length_cons, List.length_append]; show ((-1 : Int) + ((l.length + 1 + 1 : Nat) : Int)).toNat = _; omega
  rw [e1, e2]
  simp
theorem wordS_in (v : Int) : (wordL.any fun z => z == wordS v) = true := by
  unfold wordS
  split
  · decide +kernel
  · split <;> decide +kernel
theorem parts_ok {r : List Nat} {v : Int} (hr : r ≠ []) (h : ∀ n ∈ r, n < 400) : wordsB (partsS r v) = true := by
  have hl : ¬ ((partsS r v).length : Int) < 3 := by
    have := List.length_pos_iff.mpr hr
    simp [partsS]; omega
  have h0 : (partsS r v).getD 0 "" = "state" := rfl
  have hz : (partsS r v).getLastD "" = wordS v := by
    show ((("state" : Str) :: r.map numS) ++ [wordS v]).getLastD "" = _
    rw [List.getLastD_eq_getLast?, List.getLast?_concat]; rfl
  have hm : cutN (partsS r v) (some 1) (some (-1)) = r.map numS := cut_mid _ _ _
  have hf : (r.map numS).filter (fun x => !figB (tl x) 9) = [] := by
    rw [List.filter_eq_nil_iff]
    intro x hx
    obtain ⟨n, hn, rfl⟩ := List.mem_map.mp hx
    rw [num_fig (h n hn)]; decide
  unfold wordsB
  rw [hm, hf, h0, hz, wordS_in, decide_eq_false hl]
  decide +kernel
theorem joinL_part {S p : List Nat} : ∀ {ps : List (List Nat)}, p ∈ ps → p.length ≤ (joinL S ps).length
  | [q], h => by rw [List.mem_singleton.mp h]; exact Nat.le_refl _
  | q :: z :: r, h => by
    show p.length ≤ (q ++ (S ++ joinL S (z :: r))).length
    rw [List.length_append, List.length_append]
    rcases List.mem_cons.mp h with rfl | h
    · omega
    · have := joinL_part (S := S) h
      omega
theorem split_len {x y : Str} {p : Str} (h : p ∈ Txt.split x y) : p.length ≤ x.length := by
  have e := PySem.StrLaws.join_split x y
  have h2 : (tl p).length ≤ (tl (Str.join y (Txt.split x y))).length := by
    rw [tl_join]
    exact joinL_part (List.mem_map_of_mem h)
  rw [e, tl_len, tl_len] at h2
  exact h2
theorem joinL_count {S : List Nat} (hS : 1 ≤ S.length) : ∀ ps : List (List Nat), ps.length ≤ (joinL S ps).length + 1
  | [] => Nat.zero_le _
  | [p] => by show 1 ≤ p.length + 1; omega
  | p :: q :: r => by
    have h := joinL_count hS (q :: r)
    show (q :: r).length + 1 ≤ (p ++ (S ++ joinL S (q :: r))).length + 1
    rw [List.length_append, List.length_append]
    omega
theorem split_count (x : Str) (y : Str) (hy : 1 ≤ y.length := by decide +kernel) : (Txt.split x y).length ≤ x.length + 1 := by
  have e := PySem.StrLaws.join_split x y
  have h := joinL_count (S := tl y) (by rw [tl_len]; exact hy) ((Txt.split x y).map tl)
  rw [← tl_join, e, tl_len, List.length_map] at h
  exact h
theorem three {ws : List Str} (h : ¬ (ws.length : Int) < 3) : ∃ a b r z, ws = a :: (b :: r ++ [z]) := by
  match ws, h with
  | a :: b :: c :: r, _ =>
    have : c :: r ≠ [] := by simp
    exact ⟨a, b, (c :: r).dropLast, (c :: r).getLast this, congrArg (fun l => a :: b :: l) (List.dropLast_concat_getLast this).symm⟩
  | [], h3 => simp at h3
  | [_], h3 => simp at h3
  | [_, _], h3 => simp at h3
theorem wordsB_mk (a b z : Str) (r : List Str) : wordsB (a :: (b :: r ++ [z])) = (decide (a = "state") && (wordL.any fun y => y == z) && ((b :: r).filter fun x => !figB (tl x) 9).isEmpty) := by
  have h0 : (a :: (b :: r ++ [z])).getD 0 "" = a := rfl
  have hz : (a :: (b :: r ++ [z])).getLastD "" = z := by
    show ((a :: b :: r) ++ [z]).getLastD "" = z
    rw [List.getLastD_eq_getLast?, List.getLast?_concat]; rfl
  have hl : ¬ ((a :: (b :: r ++ [z])).length : Int) < 3 := by
    rw [List.length_cons, List.length_append, List.length_cons]
    show ¬ ((r.length + 1 + 1 + 1 : Nat) : Int) < 3
    omega
  unfold wordsB
  rw [h0, hz, decide_eq_false hl, cut_mid]
  rfl
end VL

namespace VM
open PySem PySem.Spec PyProof.Rows L2 VL

/-! ## results -/
abbrev Slots := List (Option D)
/-- an exception: its class by name, its fields -/
structure Xd where
  cls : Str
  fs : List (Str × D)
inductive Res (α : Type) where
  | ok (a : α) (ms : List Ob)
  | ex (x : Xd) (ds : Slots) (ms : List Ob)
  | bad
def Res.bind {α β : Type} (r : Res α) (f : α → List Ob → Res β) : Res β := match r with
  | .ok a m => f a m
  | .ex x d m => .ex x d m
  | .bad => .bad
@[simp] theorem bind_ok {α β : Type} {a : α} {m : List Ob} {f : α → List Ob → Res β} : (Res.ok a m).bind f = f a m := by unfold Res.bind; rfl
@[simp] theorem bind_bad {α β : Type} {f : α → List Ob → Res β} : (Res.bad : Res α).bind f = .bad := rfl
@[simp] theorem bind_ex {α β : Type} {x : Xd} {d : Slots} {m : List Ob} {f : α → List Ob → Res β} : (Res.ex x d m : Res α).bind f = .ex x d m := rfl
/-- what follows from a result -/
def wp {α : Type} (r : Res α) (Q : α → List Ob → Prop) (W : Xd → Slots → List Ob → Prop) : Prop := match r with
  | .ok a m => Q a m
  | .ex x d m => W x d m
  | .bad => False
theorem wp_bind {α β : Type} {r : Res α} {f : α → List Ob → Res β} {Q : β → List Ob → Prop} {W : Xd → Slots → List Ob → Prop} : wp (r.bind f) Q W ↔ wp r (fun a m => wp (f a m) Q W) W := by
  cases r <;> exact Iff.rfl
@[simp] theorem wp_ok {α : Type} {a : α} {m : List Ob} {Q : α → List Ob → Prop} {W : Xd → Slots → List Ob → Prop} : wp (.ok a m) Q W ↔ Q a m := Iff.rfl
theorem wp_imp {α : Type} {r : Res α} {Q Q' : α → List Ob → Prop} {W : Xd → Slots → List Ob → Prop} (h : wp r Q W) (q : ∀ a m, Q a m → Q' a m) : wp r Q' W := by
  cases r with
  | ok a m => exact q a m h
  | ex x d m => exact h
  | bad => exact h
/-- a result without exceptions -/
def ofO {α : Type} (o : Option (α × List Ob)) : Res α := match o with
  | some (a, m) => .ok a m
  | none => .bad
def owp {α : Type} (o : Option (α × List Ob)) (Q : α → List Ob → Prop) : Prop := match o with
  | some (a, m) => Q a m
  | none => False
theorem wp_ofO {α : Type} {o : Option (α × List Ob)} {Q : α → List Ob → Prop} {W : Xd → Slots → List Ob → Prop} : wp (ofO o) Q W ↔ owp o Q := by
  cases o <;> exact Iff.rfl
@[simp] theorem ofO_some {α : Type} {a : α} {m : List Ob} : ofO (some (a, m)) = .ok a m := rfl
@[simp] theorem ofO_none {α : Type} : (ofO none : Res α) = .bad := rfl
/-- an exception as data: its class by its name in the module, its own dict with the fields -/
def XRep (K : PySem.W.Frag) (mg : Str → Option Value) (θ : List Addr) (H : Hp) (x : Xd) (cls : Value) (d : Option Addr) : Prop :=
  ∃ C : Addr, mg x.cls = some (.ref C) ∧ cls = .ref C ∧ ((x.fs = [] ∧ d = none) ∨ ∃ (dd : Addr) (vs : List V), d = some dd ∧ H dd = some (.xd ((x.fs.map (·.1)).zip vs)) ∧ Reps K θ H (x.fs.map (·.2)) vs)
/-- the wish where an exception is raised -/
def XW (X : Cx) (B : Bs) : Xd → Slots → List Ob → Prop := fun x ds ms => Takes X fun cls d σ H => ∃ θ, Slr X.K θ H ds σ ∧ Sat X.K B θ ms H ∧ XRep X.K X.mg θ H x cls d

abbrev ME := Slots → List Ob → Res D
abbrev MT := Slots → List Ob → Res Bool
abbrev MA := Slots → List Ob → Res (List D)
abbrev MG := D → Slots → List Ob → Res Slots
abbrev MO := D → D → List Ob → Option (D × List Ob)
inductive Fl where
  | nx (ds : Slots)
  | rt (d : D)
  | bk (ds : Slots)
  | ct (ds : Slots)
abbrev MS := Slots → List Ob → Res Fl

/-! ## readings -/
structure SE (X : Cx) (e : Expr) (m : ME) : Prop where
  run : ∀ B ds ms Q, wp (m ds ms) Q (XW X B) → WE X B ds ms e Q
structure SA (X : Cx) (es : List Expr) (m : MA) : Prop where
  run : ∀ B ds ms Q, wp (m ds ms) Q (XW X B) → WA X B ds ms es Q
structure ST (X : Cx) (e : Expr) (m : MT) : Prop where
  run : ∀ B ds ms Q, wp (m ds ms) Q (XW X B) → WT X B ds ms e Q
structure SW (X : Cx) (e : Expr) (m : MT) : Prop where
  run : ∀ B ds ms Q, wp (m ds ms) Q (XW X B) → WW X B ds ms e Q
structure SO (X : Cx) (f : Value → Value → Sem Value) (o : MO) : Prop where
  run : ∀ B ms d e Q, owp (o d e ms) Q → WO X B ms f d e Q
structure SG (X : Cx) (tg : Expr) (g : MG) : Prop where
  run : ∀ B d ds ms N, wp (g d ds ms) N (XW X B) → WG X B ds ms tg d N
def wpS (r : Res Fl) (E : En) (W : Xd → Slots → List Ob → Prop) : Prop := wp r (fun f m => match f with
  | .nx ds => E.nx ds m
  | .rt d => E.rt d m
  | .bk ds => E.bk ds m
  | .ct ds => E.ct ds m) W
structure SS (X : Cx) (st : Stmt) (m : MS) : Prop where
  run : ∀ B fl ds ms E, wpS (m ds ms) E (XW X B) → WS X B fl ds ms st E
structure SSs (X : Cx) (st : List Stmt) (m : MS) : Prop where
  run : ∀ B fl ds ms E, wpS (m ds ms) E (XW X B) → WSs X B fl ds ms st E

/-! ## names, constants -/
@[simp] def nm (i : Nat) (ds : Slots) (ms : List Ob) : Res D := match ds[i]? with
  | some (some d) => .ok d ms
  | _ => .bad
@[simp] def cst (d : D) (_ : Slots) (ms : List Ob) : Res D := .ok d ms
section
variable {X : Cx} {a b c : Expr} {pos : Pos}
theorem s_nm (i : Nat) {x : Str} (hN : X.N[i]? = some x) (hv : Vis X.env.scope x) (hd : (x == ("__debug__" : Str)) = false := by decide) (hcd : (x == ("__classdict__" : Str)) = false := by decide) : SE X (.Name x pos) (nm i) := ⟨fun B ds ms Q h => by
  unfold nm at h
  split at h
  · exact we_name i hN (by assumption) hv h hd hcd
  · exact h.elim⟩
theorem s_int {n : Int} {k : Nat} : SE X (.Constant (.int n) k pos) (cst (.int n)) := ⟨fun B ds ms Q h => we_int h⟩
theorem s_str {n : Str} {k : Nat} : SE X (.Constant (.str n) k pos) (cst (.str n)) := ⟨fun B ds ms Q h => we_str h⟩
theorem s_bl {n : Bool} {k : Nat} : SE X (.Constant (.bool n) k pos) (cst (.bl n)) := ⟨fun B ds ms Q h => we_bl h⟩
theorem s_non {k : Nat} : SE X (.Constant .none k pos) (cst .non) := ⟨fun B ds ms Q h => we_non h⟩
theorem s_gS {x y : Str} {t : Tok} (hm : X.mg x = some (.str y t)) (hg : Gl X x) (hd : (x == ("__debug__" : Str)) = false := by decide) : SE X (.Name x pos) (cst (.str y)) := ⟨fun B ds ms Q h => we_globS hm hg h hd⟩
theorem s_gI {x : Str} {y : Int} {t : Tok} (hm : X.mg x = some (.int y t)) (hg : Gl X x) (hd : (x == ("__debug__" : Str)) = false := by decide) : SE X (.Name x pos) (cst (.int y)) := ⟨fun B ds ms Q h => we_globI hm hg h hd⟩
theorem s_gT {x : Str} {A : Addr} {ys : List Str} (hm : X.mg x = some (.ref A)) (hk : KTup X.K A ys) (hg : Gl X x) (hd : (x == ("__debug__" : Str)) = false := by decide) : SE X (.Name x pos) (cst (.tup (ys.map D.str))) := ⟨fun B ds ms Q h => we_globT hm hk hg h hd⟩
theorem s_ty {x : Str} {T : String} (hm : X.mg x = none) (hg : Gl X x) (hv : bootBuiltins x = some (.type T)) (hn : x ≠ "__name__" := by decide) (hd : (x == ("__debug__" : Str)) = false := by decide) : SE X (.Name x pos) (cst (.ty T)) := ⟨fun B ds ms Q h => we_ty hm hg hv h hn hd⟩

/-! ## arguments, displays -/
@[simp] def aNil (_ : Slots) (ms : List Ob) : Res (List D) := .ok [] ms
@[simp] def aConsK2 (d : D) (dl : List D) (m : List Ob) : Res (List D) := .ok (d :: dl) m
@[simp] def aConsK (as : MA) (ds : Slots) (d : D) (m : List Ob) : Res (List D) := (as ds m).bind (aConsK2 d)
@[simp] def aCons (a : ME) (as : MA) (ds : Slots) (ms : List Ob) : Res (List D) := (a ds ms).bind (aConsK as ds)
theorem sa_nil : SA X [] aNil := ⟨fun B ds ms Q h => wa_nil h⟩
theorem sa_cons {e : Expr} {es : List Expr} {m : ME} {as : MA} (h1 : SE X e m) (h2 : SA X es as) (hs : starEach (e :: es) X.env = (false, eval e X.env) :: starEach es X.env := by rfl) : SA X (e :: es) (aCons m as) := ⟨fun B ds ms Q h =>
  wa_cons (h1.run B ds ms _ (wp_imp (wp_bind.mp h) fun d m1 h => h2.run B ds m1 _ (wp_imp (wp_bind.mp h) fun dl m2 h => h))) hs⟩
@[simp] def tupK (dl : List D) (m : List Ob) : Res D := if dl.length ≤ sizeLine then .ok (.tup dl) m else .bad
@[simp] def tupE (as : MA) (ds : Slots) (ms : List Ob) : Res D := (as ds ms).bind tupK
@[simp] def lstK (dl : List D) (m : List Ob) : Res D := if dl.length ≤ sizeLine then .ok (.obj m.length) (m ++ [.lst dl]) else .bad
@[simp] def lstE (as : MA) (ds : Slots) (ms : List Ob) : Res D := (as ds ms).bind lstK
@[simp] def rolK (n : Nat) (dl : List D) (m : List Ob) : Res D := if dl.length ≤ sizeLine ∧ imAll dl = true ∧ n ≤ m.length then .ok (.rol dl) m else .bad
@[simp] def rolE (as : MA) (ds : Slots) (ms : List Ob) : Res D := (as ds ms).bind (rolK ms.length)
theorem s_tup {es : List Expr} {k : Nat} {as : MA} (h1 : SA X es as) : SE X (.Tuple es k pos) (tupE as) := ⟨fun B ds ms Q h =>
  we_tup (h1.run B ds ms _ (wp_imp (wp_bind.mp h) fun dl m h => by
    unfold tupK at h
    split at h
    · exact ⟨by assumption, h⟩
    · exact h.elim))⟩
theorem s_lst {es : List Expr} {as : MA} (h1 : SA X es as) : SE X (.List es pos) (lstE as) := ⟨fun B ds ms Q h =>
  we_list (h1.run B ds ms _ (wp_imp (wp_bind.mp h) fun dl m h => by
    unfold lstK at h
    split at h
    · exact ⟨by assumption, h⟩
    · exact h.elim))⟩
theorem s_dic0 : SE X (.Dict [] [] pos) (fun _ ms => .ok (.obj ms.length) (ms ++ [.dK []])) := ⟨fun B ds ms Q h => we_dict0 h⟩
theorem wa_clos {B : Bs} {ds : Slots} {ms : List Ob} {es : List Expr} {Q : List D → List Ob → Prop} (h : WA X B ds ms es fun dl m => m.all (Ob.cl m.length) = true → Q dl m) : WA X B ds ms es Q := .mk fun σ H θ S L =>
  (h σ H θ S L).mono fun v H' ⟨dl, m, more, r, im, S', q⟩ => ⟨dl, m, more, r, im, S', q (sat_clos S')⟩
theorem s_rol {es : List Expr} {as : MA} (h1 : SA X es as) : SE X (.List es pos) (rolE as) := ⟨fun B ds ms Q h =>
  we_frzL (we_list (wa_clos (h1.run B ds ms _ (wp_imp (wp_bind.mp h) fun dl m h => by
    unfold rolK at h
    split at h
    · rename_i c
      exact fun hc => ⟨c.1, m, dl, rfl, rfl, c.2.2, hc, c.2.1, h⟩
    · exact h.elim))))⟩

/-! ## operators -/
@[simp] def binK2 (o : MO) (d e : D) (m : List Ob) : Res D := ofO (o d e m)
@[simp] def binK (o : MO) (b : ME) (ds : Slots) (d : D) (m : List Ob) : Res D := (b ds m).bind (binK2 o d)
@[simp] def binE (o : MO) (a b : ME) (ds : Slots) (ms : List Ob) : Res D := (a ds ms).bind (binK o b ds)
theorem s_bin {op : Operator} {o : MO} {ma mb : ME} (ho : SO X (binaryOp op) o) (ha : SE X a ma) (hb : SE X b mb) : SE X (.BinOp a op b pos) (binE o ma mb) := ⟨fun B ds ms Q h =>
  we_bin (ha.run B ds ms _ (wp_imp (wp_bind.mp h) fun d m h => hb.run B ds m _ (wp_imp (wp_bind.mp h) fun e m2 h => ho.run B m2 d e Q (wp_ofO.mp h))))⟩
theorem s_cmp {op : CmpOp} {o : MO} {ma mb : ME} (ho : SO X (compareOp op) o) (ha : SE X a ma) (hb : SE X b mb) (hm : behindInMarks op b = false := by first | exact nomark _ | rfl) : SE X (.Compare a [op] [b] pos) (binE o ma mb) := ⟨fun B ds ms Q h =>
  we_cmp (ha.run B ds ms _ (wp_imp (wp_bind.mp h) fun d m h => hb.run B ds m _ (wp_imp (wp_bind.mp h) fun e m2 h => ho.run B m2 d e Q (wp_ofO.mp h)))) hm⟩
/-- what must be a truth value -/
@[simp] def toB (d : D) (ms : List Ob) : Res Bool := match d with
  | .bl k => .ok k ms
  | _ => .bad
theorem wp_toB {d : D} {ms : List Ob} {Q : Bool → List Ob → Prop} {W : Xd → Slots → List Ob → Prop} (h : wp (toB d ms) Q W) : ∃ k, d = .bl k ∧ Q k ms := by
  cases d with
  | bl k => exact ⟨k, rfl, h⟩
  | _ => exact h.elim
@[simp] def tcmp (o : MO) (a b : ME) (ds : Slots) (ms : List Ob) : Res Bool := (binE o a b ds ms).bind toB
theorem owp_ofO {o : Option (D × List Ob)} {Q : Bool → List Ob → Prop} {W : Xd → Slots → List Ob → Prop} (h : wp ((ofO o).bind toB) Q W) : owp o fun r m3 => ∃ k, r = .bl k ∧ Q k m3 := by
  cases o with
  | none => exact h
  | some r => exact wp_toB h
theorem t_cmp {op : CmpOp} {o : MO} {ma mb : ME} (ho : SO X (compareOp op) o) (ha : SE X a ma) (hb : SE X b mb) (hm : behindInMarks op b = false := by first | exact nomark _ | rfl) : ST X (.Compare a [op] [b] pos) (tcmp o ma mb) := ⟨fun B ds ms Q h => by
  have h := wp_bind.mp (wp_bind.mp h)
  exact wt_cmp (ha.run B ds ms _ (wp_imp h fun d m h => hb.run B ds m _ (wp_imp (wp_bind.mp h) fun e m2 h => ho.run B m2 d e _ (by
    unfold binK2 at h
    cases hh : o d e m2 with
    | none => rw [hh] at h; exact h.elim
    | some r => rw [hh] at h; exact wp_toB h)))) hm⟩
@[simp] def tval (a : ME) (ds : Slots) (ms : List Ob) : Res Bool := (a ds ms).bind toB
theorem t_val {e : Expr} {m : ME} (h1 : SE X e m) (he : ∀ whole, isTrue e X.env whole = (do let v ← whole; standAt e.pos; holding [v] (truthy v)) := by intro _; rfl) : ST X e (tval m) := ⟨fun B ds ms Q h =>
  wt_val (h1.run B ds ms _ (wp_imp (wp_bind.mp h) fun d m h => wp_toB h)) he⟩
@[simp] def tandK (b : MT) (ds : Slots) (k : Bool) (m : List Ob) : Res Bool := if k then b ds m else .ok false m
@[simp] def tand (a b : MT) (ds : Slots) (ms : List Ob) : Res Bool := (a ds ms).bind (tandK b ds)
@[simp] def torK (b : MT) (ds : Slots) (k : Bool) (m : List Ob) : Res Bool := if k then .ok true m else b ds m
@[simp] def tor (a b : MT) (ds : Slots) (ms : List Ob) : Res Bool := (a ds ms).bind (torK b ds)
@[simp] def tnotK (k : Bool) (m : List Ob) : Res Bool := .ok (!k) m
@[simp] def tnot (a : MT) (ds : Slots) (ms : List Ob) : Res Bool := (a ds ms).bind tnotK
theorem w_and1 {m : MT} (h1 : ST X a m) : SW X (.BoolOp .And [a] pos) m := ⟨fun B ds ms Q h => wt_and1 (h1.run B ds ms Q h)⟩
theorem w_or1 {m : MT} (h1 : ST X a m) : SW X (.BoolOp .Or [a] pos) m := ⟨fun B ds ms Q h => wt_or1 (h1.run B ds ms Q h)⟩
theorem w_and {rest : List Expr} {ma mb : MT} (h1 : ST X a ma) (h2 : SW X (.BoolOp .And (b :: rest) pos) mb) : SW X (.BoolOp .And (a :: b :: rest) pos) (tand ma mb) := ⟨fun B ds ms Q h =>
  wt_and2 (h1.run B ds ms _ (wp_imp (wp_bind.mp h) fun k m h => ⟨fun e => by subst e; exact h2.run B ds m Q h, fun e => by subst e; exact h⟩))⟩
theorem w_or {rest : List Expr} {ma mb : MT} (h1 : ST X a ma) (h2 : SW X (.BoolOp .Or (b :: rest) pos) mb) : SW X (.BoolOp .Or (a :: b :: rest) pos) (tor ma mb) := ⟨fun B ds ms Q h =>
  wt_or2 (h1.run B ds ms _ (wp_imp (wp_bind.mp h) fun k m h => ⟨fun e => by subst e; exact h2.run B ds m Q h, fun e => by subst e; exact h⟩))⟩
theorem t_w {e : Expr} {m : MT} (h1 : SW X e m) : ST X e m := ⟨fun B ds ms Q h => wt_w (h1.run B ds ms Q h)⟩
theorem t_not {m : MT} (h1 : ST X a m) : ST X (.UnaryOp .Not a pos) (tnot m) := ⟨fun B ds ms Q h => wt_not (h1.run B ds ms _ (wp_imp (wp_bind.mp h) fun k m h => h))⟩
@[simp] def ifEK (a b : ME) (ds : Slots) (k : Bool) (m : List Ob) : Res D := if k then a ds m else b ds m
@[simp] def ifE (c : MT) (a b : ME) (ds : Slots) (ms : List Ob) : Res D := (c ds ms).bind (ifEK a b ds)
theorem s_if {mc : MT} {ma mb : ME} (hc : ST X c mc) (ha : SE X a ma) (hb : SE X b mb) : SE X (.IfExp c a b pos) (ifE mc ma mb) := ⟨fun B ds ms Q h =>
  we_ifExp (hc.run B ds ms _ (wp_imp (wp_bind.mp h) fun k m h => ⟨fun e => by subst e; exact ha.run B ds m Q h, fun e => by subst e; exact hb.run B ds m Q h⟩))⟩
/-- and, or as values -/
@[simp] def andK2 (b : ME) (ds : Slots) (k : Bool) (m : List Ob) : Res D := if k then b ds m else .ok (.bl false) m
@[simp] def andK (b : ME) (ds : Slots) (d : D) (m : List Ob) : Res D := (toB d m).bind (andK2 b ds)
@[simp] def andE (a b : ME) (ds : Slots) (ms : List Ob) : Res D := (a ds ms).bind (andK b ds)
@[simp] def orK2 (b : ME) (ds : Slots) (k : Bool) (m : List Ob) : Res D := if k then .ok (.bl true) m else b ds m
@[simp] def orK (b : ME) (ds : Slots) (d : D) (m : List Ob) : Res D := (toB d m).bind (orK2 b ds)
@[simp] def orE (a b : ME) (ds : Slots) (ms : List Ob) : Res D := (a ds ms).bind (orK b ds)
theorem s_and1 {m : ME} (h1 : SE X a m) : SE X (.BoolOp .And [a] pos) m := ⟨fun B ds ms Q h => we_and1 (h1.run B ds ms Q h)⟩
theorem s_or1 {m : ME} (h1 : SE X a m) : SE X (.BoolOp .Or [a] pos) m := ⟨fun B ds ms Q h => we_or1 (h1.run B ds ms Q h)⟩
theorem s_and {rest : List Expr} {ma mb : ME} (h1 : SE X a ma) (h2 : SE X (.BoolOp .And (b :: rest) pos) mb) : SE X (.BoolOp .And (a :: b :: rest) pos) (andE ma mb) := ⟨fun B ds ms Q h =>
  we_and2 (h1.run B ds ms _ (wp_imp (wp_bind.mp h) fun d m h => by
    obtain ⟨k, rfl, h⟩ := wp_toB (wp_bind.mp h)
    exact ⟨k, rfl, fun e => by subst e; exact h2.run B ds m Q h, fun e => by subst e; exact h⟩))⟩
theorem s_or {rest : List Expr} {ma mb : ME} (h1 : SE X a ma) (h2 : SE X (.BoolOp .Or (b :: rest) pos) mb) : SE X (.BoolOp .Or (a :: b :: rest) pos) (orE ma mb) := ⟨fun B ds ms Q h =>
  we_or2 (h1.run B ds ms _ (wp_imp (wp_bind.mp h) fun d m h => by
    obtain ⟨k, rfl, h⟩ := wp_toB (wp_bind.mp h)
    exact ⟨k, rfl, fun e => by subst e; exact h2.run B ds m Q h, fun e => by subst e; exact h⟩))⟩
@[simp] def notK2 (k : Bool) (m : List Ob) : Res D := .ok (.bl (!k)) m
@[simp] def notK (d : D) (m : List Ob) : Res D := (toB d m).bind notK2
@[simp] def notE (a : ME) (ds : Slots) (ms : List Ob) : Res D := (a ds ms).bind notK
theorem s_not {m : ME} (h1 : SE X a m) : SE X (.UnaryOp .Not a pos) (notE m) := ⟨fun B ds ms Q h => we_not (h1.run B ds ms _ (wp_imp (wp_bind.mp h) fun d m h => wp_toB (wp_bind.mp h)))⟩
/-- a < b < c -/
@[simp] def chK4 (o' : MO) (c : ME) (ds : Slots) (e : D) (k : Bool) (m : List Ob) : Res D := if k then (c ds m).bind (binK2 o' e) else .ok (.bl false) m
@[simp] def chK3 (o' : MO) (c : ME) (ds : Slots) (e r : D) (m : List Ob) : Res D := (toB r m).bind (chK4 o' c ds e)
@[simp] def chK2 (o o' : MO) (c : ME) (ds : Slots) (d e : D) (m : List Ob) : Res D := (ofO (o d e m)).bind (chK3 o' c ds e)
@[simp] def chK (o o' : MO) (b c : ME) (ds : Slots) (d : D) (m : List Ob) : Res D := (b ds m).bind (chK2 o o' c ds d)
@[simp] def chE (o o' : MO) (a b c : ME) (ds : Slots) (ms : List Ob) : Res D := (a ds ms).bind (chK o o' b c ds)
theorem s_ch {op op' : CmpOp} {o o' : MO} {ma mb mc : ME} (ho : SO X (compareOp op) o) (ho' : SO X (compareOp op') o') (ha : SE X a ma) (hb : SE X b mb) (hc : SE X c mc)
    (H : ∀ B ds ms Q, (WE X B ds ms a fun d m => WE X B ds m b fun e m2 => WO X B m2 (compareOp op) d e fun r m3 => ∃ k, r = .bl k ∧ (k = true → WE X B ds m3 c fun f m4 => WO X B m4 (compareOp op') e f Q) ∧ (k = false → Q (.bl false) m3)) → WE X B ds ms (.Compare a [op, op'] [b, c] pos) Q) :
    SE X (.Compare a [op, op'] [b, c] pos) (chE o o' ma mb mc) := ⟨fun B ds ms Q h =>
  H B ds ms Q (ha.run B ds ms _ (wp_imp (wp_bind.mp h) fun d m h => hb.run B ds m _ (wp_imp (wp_bind.mp h) fun e m2 h => ho.run B m2 d e _ (by
    have h := wp_bind.mp h
    cases hh : o d e m2 with
    | none => rw [hh] at h; exact h.elim
    | some r =>
      rw [hh] at h
      obtain ⟨k, e1, h⟩ := wp_toB (wp_bind.mp h)
      exact ⟨k, e1, fun e => by subst e; exact hc.run B ds _ _ (wp_imp (wp_bind.mp h) fun f m4 h => ho'.run B m4 _ f Q (wp_ofO.mp h)), fun e => by subst e; exact h⟩))))⟩
@[simp] def tch (o o' : MO) (a b c : ME) (ds : Slots) (ms : List Ob) : Res Bool := (chE o o' a b c ds ms).bind toB
theorem t_ch {op op' : CmpOp} {o o' : MO} {ma mb mc : ME} (ho : SO X (compareOp op) o) (ho' : SO X (compareOp op') o') (ha : SE X a ma) (hb : SE X b mb) (hc : SE X c mc)
    (H : ∀ B ds ms (Q : Bool → List Ob → Prop), (WE X B ds ms a fun d m => WE X B ds m b fun e m2 => WO X B m2 (compareOp op) d e fun r m3 => ∃ k, r = .bl k ∧ (k = true → WE X B ds m3 c fun f m4 => WO X B m4 (compareOp op') e f fun r m5 => ∃ k, r = .bl k ∧ Q k m5) ∧ (k = false → Q false m3)) → WT X B ds ms (.Compare a [op, op'] [b, c] pos) Q) :
    ST X (.Compare a [op, op'] [b, c] pos) (tch o o' ma mb mc) := ⟨fun B ds ms Q h =>
  H B ds ms Q (ha.run B ds ms _ (wp_imp (wp_bind.mp (wp_bind.mp h)) fun d m h => hb.run B ds m _ (wp_imp (wp_bind.mp h) fun e m2 h => ho.run B m2 d e _ (by
    have h := wp_bind.mp h
    cases hh : o d e m2 with
    | none => rw [hh] at h; exact h.elim
    | some r =>
      rw [hh] at h
      obtain ⟨k, e1, h⟩ := wp_toB (wp_bind.mp h)
      refine ⟨k, e1, fun e => ?_, fun e => ?_⟩
      · subst e
        exact hc.run B ds _ _ (wp_imp (wp_bind.mp h) fun f m4 h => ho'.run B m4 _ f _ (by
          unfold binK2 at h
          cases hh : o' _ f m4 with
          | none => rw [hh] at h; exact h.elim
          | some r => rw [hh] at h; exact wp_toB h))
      · subst e; exact h))))⟩
@[simp] def negK (d : D) (m : List Ob) : Res D := match d with
  | .int i => .ok (.int (-i)) m
  | _ => .bad
@[simp] def negE (a : ME) (ds : Slots) (ms : List Ob) : Res D := (a ds ms).bind negK
theorem s_neg {m : ME} (h1 : SE X a m) : SE X (.UnaryOp .USub a pos) (negE m) := ⟨fun B ds ms Q h =>
  we_un (h1.run B ds ms _ (wp_imp (wp_bind.mp h) fun d m h => by
    cases d with
    | int i => exact wu_neg h
    | _ => exact h.elim))⟩
end
end VM

namespace VM
open PySem PySem.Spec PyProof.Rows L2 VL
/-! ## data compared by evaluation -/
mutual
def D.eqb : D → D → Bool
  | .non, .non => true
  | .bl a, .bl b => a == b
  | .int a, .int b => a == b
  | .str a, .str b => decide (a = b)
  | .ty a, .ty b => a == b
  | .obj a, .obj b => a == b
  | .ref a, .ref b => decide (a = b)
  | .tup a, .tup b => eqbAll a b
  | .rol a, .rol b => eqbAll a b
  | .rod k a, .rod l b => decide (k = l) && eqbAll a b
  | _, _ => false
def eqbAll : List D → List D → Bool
  | [], [] => true
  | a :: as, b :: bs => D.eqb a b && eqbAll as bs
  | _, _ => false
end
mutual
theorem eqb_eq : ∀ (a b : D), D.eqb a b = true → a = b
  | .non, b, h => by cases b <;> first | rfl | (simp [D.eqb] at h; done)
  | .bl a, b, h => by cases b <;> first | (simp [D.eqb] at h; done) | (simp [D.eqb] at h; rw [h])
  | .int a, b, h => by cases b <;> first | (simp [D.eqb] at h; done) | (simp [D.eqb] at h; rw [h])
  | .str a, b, h => by cases b <;> first | (simp [D.eqb] at h; done) | (simp [D.eqb] at h; rw [h])
  | .ty a, b, h => by cases b <;> first | (simp [D.eqb] at h; done) | (simp [D.eqb] at h; rw [h])
  | .obj a, b, h => by cases b <;> first | (simp [D.eqb] at h; done) | (simp [D.eqb] at h; rw [h])
  | .ref a, b, h => by cases b <;> first | (simp [D.eqb] at h; done) | (simp [D.eqb] at h; rw [h])
  | .rod k a, b, h => by
    cases b with
    | rod l b => simp [D.eqb] at h; rw [h.1, eqbAll_eq a b h.2]
    | _ => simp [D.eqb] at h
  | .tup a, b, h => by
    cases b with
    | tup b => unfold D.eqb at h; rw [eqbAll_eq a b h]
    | _ => simp [D.eqb] at h
  | .rol a, b, h => by
    cases b with
    | rol b => unfold D.eqb at h; rw [eqbAll_eq a b h]
    | _ => simp [D.eqb] at h
theorem eqbAll_eq : ∀ (a b : List D), eqbAll a b = true → a = b
  | [], [], _ => rfl
  | [], _ :: _, h => by simp [eqbAll] at h
  | _ :: _, [], h => by simp [eqbAll] at h
  | a :: as, b :: bs, h => by
    simp [eqbAll] at h
    rw [eqb_eq a b h.1, eqbAll_eq as bs h.2]
end
mutual
theorem eqb_refl : ∀ (a : D), D.eqb a a = true
  | .non => rfl
  | .bl a => by simp [D.eqb]
  | .int a => by simp [D.eqb]
  | .str a => by simp [D.eqb]
  | .ty a => by simp [D.eqb]
  | .obj a => by simp [D.eqb]
  | .ref a => by simp [D.eqb]
  | .tup a => by unfold D.eqb; exact eqbAll_refl a
  | .rol a => by unfold D.eqb; exact eqbAll_refl a
  | .rod k a => by unfold D.eqb; rw [eqbAll_refl a]; simp
theorem eqbAll_refl : ∀ (a : List D), eqbAll a a = true
  | [] => rfl
  | a :: as => by unfold eqbAll; rw [eqb_refl a, eqbAll_refl as]; rfl
end
instance : DecidableEq D := fun a b => if h : D.eqb a b = true then isTrue (eqb_eq a b h) else isFalse fun e => h (e ▸ eqb_refl a)
instance (i j : Int) : Decidable (CMul i j) := by unfold CMul; infer_instance
instance (i j : Int) : Decidable (CPow i j) := by unfold CPow; infer_instance
instance (i j : Int) : Decidable (CDivW i j) := by unfold CDivW; infer_instance
open Classical
noncomputable section

/-! ## what is a list, what is flat -/
/-- a list that stands as it is, whatever may change it -/
def SqS (K : PySem.W.Frag) (H : Hp) (a : Addr) (xs : List V) : Prop := H a = some (.lst xs) ∨ SqLi K H a xs
theorem SqS.sq {K : PySem.W.Frag} {H : Hp} {a : Addr} {xs : List V} (h : SqS K H a xs) : SqL K H a xs := h.elim SqL.of SqLi.sq
theorem inv_sqs {X : Cx} {pins : List (Addr × Obj)} {σ : L2.St} {H : Hp} {s : Shared} {a : Addr} {xs : List V} (I : Inv X pins σ H s) (h : SqS X.K H a xs) :
    xs.length ≤ sizeLine ∧ ∃ (its : List Value) (n : Nat), Vals xs its ∧ xs.length = its.length ∧ s.heap.get? a = some { cls := .type "list", data := .seq its.toArray n } := by
  rcases h with h | ⟨o, h⟩ | ⟨o, its, n, h1, h2, h3, h4, h5, h6, h7⟩
  · exact I.lstM h
  · obtain ⟨_, z, its, n, r, e⟩ := I.hok a _ h
    obtain ⟨e0, _⟩ := I.hok a _ h
    exact ⟨z, its, n, r, r.length, e⟩
  · have e := I.kIn a o h1
    have hl := h6.length
    refine ⟨by rw [hl, Array.length_toList]; exact h5, its.toList, n, h6, hl, ?_⟩
    rw [e]
    obtain ⟨c, d, da, sl⟩ := o
    simp only at h2 h3 h4 h7
    subst h2; subst h3; subst h4; subst h7
    simp
def rCatS (K : PySem.W.Frag) : R2 := fun x y H Q => ∃ l b xs zs, x = .ref l ∧ y = .ref b ∧ SqS K H l xs ∧ SqS K H b zs ∧ xs.length + zs.length ≤ sizeLine ∧ ∀ p, H p = none → Q (.ref p) (upd H p (.lst (xs ++ zs)))
theorem op_catS {X : Cx} : OpR X (binaryOp .Add) (rCatS X.K) := fun pins s σ H x y v u Q I rx ry h => by
  obtain ⟨l, b, xs, zs, rfl, rfl, h1, h2, hz, q⟩ := h
  cases rx
  cases ry
  obtain ⟨z, i1, n, r, hl, e⟩ := inv_sqs I h1
  obtain ⟨z2, i2, n2, r2, hl2, e2⟩ := inv_sqs I h2
  refine PySem.P.add_list e e2 ?_ (by simp only [List.size_toArray]; omega)
  rw [show i1.toArray ++ i2.toArray = (i1 ++ i2).toArray by simp]
  exact ⟨.ref _, _, I.lnew (t' := s.toks) (r.append r2) (by simp only [List.length_append]; omega), rfl, q _ I.fresh⟩
def rExtS (K : PySem.W.Frag) : V → List V → Hp → VK → Prop := fun x vs H Q => ∃ l b xs zs, x = .ref l ∧ vs = [.ref b] ∧ H l = some (.lst xs) ∧ SqS K H b zs ∧ xs.length + zs.length ≤ sizeLine ∧ Q .non (upd H l (.lst (xs ++ zs)))
theorem mt_extS {X : Cx} : MtR X "list.extend" (rExtS X.K) := fun pins s σ H x vs v us Q I rx rv h => by
  obtain ⟨l, b, xs, zs, rfl, rfl, h1, h2, hz, q⟩ := h
  cases rx
  obtain ⟨u, rfl, ru⟩ := rv.one
  cases ru
  obtain ⟨z, i1, n, r, hl, e⟩ := I.lstM h1
  obtain ⟨z2, i2, n2, r2, hl2, e2⟩ := inv_sqs I h2
  have k1 : i1.toArray.size + i2.toArray.size ≤ sizeLine := by simp only [List.size_toArray]; omega
  have k2 : ¬ (!i1.toArray.isEmpty && Builtin.List.listTooLong (i1.toArray.size + i2.toArray.size)) = true := fun w => by
    rw [notLongL k1, Bool.and_false] at w
    cases w
  refine call_meets F.slot_list_extend ⟨_, e, rfl⟩ F.entry_list_extend (F.args_list_extend_2 _ _) (AutoSeq1.list_extend_list_list_0 l i1.toArray n b i2.toArray n2 k2 (by simp only [List.size_toArray]; omega) (by omega)) ⟨e, e2, ?_⟩
  exact ⟨.non, _, I.lset (its' := i1 ++ i2) h1 e (by simp) (r.append r2) (by simp only [List.length_append]; omega), rfl, q⟩
@[simp] def lstOf (ms : List Ob) (d : D) : Option (List D) := match d with
  | .rol xs => some xs
  | .obj k => match ms[k]? with
    | some (.lst xs) => some xs
    | _ => none
  | _ => none
theorem lst_repS {K : PySem.W.Frag} {B : Bs} {θ : List Addr} {ms : List Ob} {H : Hp} {d : D} {v : V} {xs : List D} (h : lstOf ms d = some xs) (S : Sat K B θ ms H) (r : Rep K θ H d v) : ∃ a vs, v = .ref a ∧ SqS K H a vs ∧ Reps K θ H xs vs := by
  cases d with
  | rol ys =>
    cases h
    obtain ⟨a, vs, e, s, rs⟩ := rep_rol r
    exact ⟨a, vs, e, .inr s, rs⟩
  | obj k =>
    obtain ⟨a, e, rfl⟩ := rep_obj r
    simp only [lstOf] at h
    split at h
    · rename_i zs hk
      cases h
      obtain ⟨vs, s, rs⟩ := S.obs k _ a hk e
      exact ⟨a, vs, rfl, .inl s, rs⟩
    · cases h
  | _ => cases h
theorem lst_rep {K : PySem.W.Frag} {B : Bs} {θ : List Addr} {ms : List Ob} {H : Hp} {d : D} {v : V} {xs : List D} (h : lstOf ms d = some xs) (S : Sat K B θ ms H) (r : Rep K θ H d v) : ∃ a vs, v = .ref a ∧ SqL K H a vs ∧ Reps K θ H xs vs :=
  let ⟨a, vs, e, s, rs⟩ := lst_repS h S r
  ⟨a, vs, e, s.sq, rs⟩
/-- a value that holds no other: as a value of the layer below -/
@[simp] def vOf : D → Option V
  | .non => some .non
  | .bl b => some (.bl b)
  | .int i => some (.int i)
  | .str x => some (.str x)
  | _ => none
def vsOf : List D → Option (List V)
  | [] => some []
  | d :: ds => match vOf d, vsOf ds with
    | some v, some vs => some (v :: vs)
    | _, _ => none
theorem vOf_rep {K : PySem.W.Frag} {θ : List Addr} {H : Hp} {d : D} {v w : V} (h : vOf d = some w) (r : Rep K θ H d v) : v = w ∧ flatV w = true := by
  cases d with
  | non => cases h; exact ⟨rep_non r, rfl⟩
  | bl b => cases h; exact ⟨rep_bl r, rfl⟩
  | int b => cases h; exact ⟨rep_int r, rfl⟩
  | str b => cases h; exact ⟨rep_str r, rfl⟩
  | _ => cases h
theorem vsOf_rep {K : PySem.W.Frag} {θ : List Addr} {H : Hp} : ∀ {ds : List D} {vs ws : List V}, vsOf ds = some ws → Reps K θ H ds vs → vs = ws ∧ ws.all flatV = true
  | [], _, _, h, r => by cases h; exact ⟨reps_nil r, rfl⟩
  | d :: ds, _, ws, h, r => by
    obtain ⟨v, vs', rfl, r1, rs⟩ := reps_cons r
    unfold vsOf at h
    split at h
    · rename_i v1 vs1 e1 e2
      cases h
      obtain ⟨rfl, f1⟩ := vOf_rep e1 r1
      obtain ⟨rfl, f2⟩ := vsOf_rep e2 rs
      exact ⟨rfl, by rw [List.all_cons, f1, f2]; rfl⟩
    · cases h
@[simp] theorem vsOf_ints (l : List Int) : vsOf (l.map D.int) = some (l.map V.int) := by
  induction l with
  | nil => rfl
  | cons a l ih => rw [List.map_cons]; unfold vsOf; rw [ih]; rfl
@[simp] theorem vsOf_strs (l : List Str) : vsOf (l.map D.str) = some (l.map V.str) := by
  induction l with
  | nil => rfl
  | cons a l ih => rw [List.map_cons]; unfold vsOf; rw [ih]; rfl
@[simp] def seqOf (ms : List Ob) (d : D) : Option (List D) := match d with
  | .tup xs => some xs
  | d => lstOf ms d
theorem seq_rep {K : PySem.W.Frag} {B : Bs} {θ : List Addr} {ms : List Ob} {H : Hp} {d : D} {v : V} {xs : List D} (h : seqOf ms d = some xs) (S : Sat K B θ ms H) (r : Rep K θ H d v) : ∃ a vs, v = .ref a ∧ (SqL K H a vs ∨ SqT K H a vs) ∧ Reps K θ H xs vs := by
  by_cases ht : ∃ ys, d = .tup ys
  · obtain ⟨ys, rfl⟩ := ht
    cases h
    obtain ⟨a, vs, e, s, rs⟩ := rep_tup r
    exact ⟨a, vs, e, .inr s, rs⟩
  · have h' : lstOf ms d = some xs := by
      cases d with
      | tup ys => exact absurd ⟨ys, rfl⟩ ht
      | _ => exact h
    obtain ⟨a, vs, e, s, rs⟩ := lst_rep h' S r
    exact ⟨a, vs, e, .inl s, rs⟩

/-! ## operators -/
@[simp] def opAdd : MO
  | .int i, .int j, ms => some (.int (i + j), ms)
  | .str x, .str y, ms => if x.length + y.length ≤ sizeLine then some (.str (x ++ y), ms) else none
  | .tup xs, .tup ys, ms => if xs.length + ys.length ≤ sizeLine then some (.tup (xs ++ ys), ms) else none
  | d, e, ms => match lstOf ms d, lstOf ms e with
    | some xs, some ys => if xs.length + ys.length ≤ sizeLine then some (.obj ms.length, ms ++ [.lst (xs ++ ys)]) else none
    | _, _ => none
@[simp] def opSub : MO
  | .int i, .int j, ms => some (.int (i - j), ms)
  | _, _, _ => none
@[simp] def opMul : MO
  | .int i, .int j, ms => if CMul i j then some (.int (i * j), ms) else none
  | .str x, .int n, ms => if MulOk x n then some (.str (Txt.mul x n), ms) else none
  | .tup xs, .int k, ms => if xs ≠ [] ∧ 2 ≤ k ∧ k ≤ 1000 ∧ xs.length ≤ 1000 then some (.tup (List.replicate k.toNat xs).flatten, ms) else none
  | _, _, _ => none
@[simp] def opDiv : MO
  | .int i, .int j, ms => if CDivW i j then some (.int (i / j), ms) else none
  | _, _, _ => none
@[simp] def opMod : MO
  | .int i, .int j, ms => if 0 < j then some (.int (i % j), ms) else none
  | _, _, _ => none
@[simp] def opPow : MO
  | .int i, .int j, ms => if CPow i j then some (.int (i ^ j.toNat), ms) else none
  | _, _, _ => none
section
variable {X : Cx} {a b c : Expr} {pos : Pos}
theorem wo_addLL {B : Bs} {ms : List Ob} {d e : D} {xs ys : List D} {Q : D → List Ob → Prop} (h1 : lstOf ms d = some xs) (h2 : lstOf ms e = some ys) (hc : xs.length + ys.length ≤ sizeLine) (q : ms.all (Ob.cl ms.length) = true → Q (.obj ms.length) (ms ++ [.lst (xs ++ ys)])) : WO X B ms (binaryOp .Add) d e Q :=
  WO.of op_catS fun H θ x y S r1 r2 => by
    obtain ⟨a, vs, rfl, s1, q1⟩ := lst_repS h1 S r1
    obtain ⟨b, ws, rfl, s2, q2⟩ := lst_repS h2 S r2
    exact ⟨a, b, vs, ws, rfl, rfl, s1, s2, by rw [q1.length, q2.length]; exact hc, fun p hp => pv_lst S (q1.append q2) hp (q (sat_clos S))⟩
theorem so_add : SO X (binaryOp .Add) opAdd := ⟨fun B ms d e Q h => by
  unfold opAdd at h
  split at h
  · exact wo_addI h
  · split at h
    · exact wo_addS (by assumption) h
    · exact h.elim
  · split at h
    · exact wo_addT (by assumption) h
    · exact h.elim
  · split at h
    · split at h
      · exact wo_addLL (by assumption) (by assumption) (by assumption) fun _ => h
      · exact h.elim
    · exact h.elim⟩
/-- the sum of two lists, held fast -/
@[simp] def catK2 (n : Nat) (d e : D) (m2 : List Ob) : Res D := match lstOf m2 d, lstOf m2 e with
  | some xs, some ys => if xs.length + ys.length ≤ sizeLine ∧ imAll (xs ++ ys) = true ∧ n ≤ m2.length then .ok (.rol (xs ++ ys)) m2 else .bad
  | _, _ => .bad
@[simp] def catK (n : Nat) (b : ME) (ds : Slots) (d : D) (m : List Ob) : Res D := (b ds m).bind (catK2 n d)
@[simp] def catR (a b : ME) (ds : Slots) (ms : List Ob) : Res D := (a ds ms).bind (catK ms.length b ds)
theorem s_catR {ma mb : ME} (ha : SE X a ma) (hb : SE X b mb) : SE X (.BinOp a .Add b pos) (catR ma mb) := ⟨fun B ds ms Q h =>
  we_frzL (we_bin (ha.run B ds ms _ (wp_imp (wp_bind.mp h) fun d m h => hb.run B ds m _ (wp_imp (wp_bind.mp h) fun e m2 h => by
    unfold catK2 at h
    split at h
    · split at h
      · rename_i xs ys h1 h2 c
        exact wo_addLL h1 h2 c.1 fun hc => ⟨m2, xs ++ ys, rfl, rfl, c.2.2, hc, c.2.1, h⟩
      · exact h.elim
    · exact h.elim))))⟩
theorem so_sub : SO X (binaryOp .Sub) opSub := ⟨fun B ms d e Q h => by
  cases d <;> cases e <;> first
    | exact False.elim h
    | exact wo_subI h⟩
theorem so_mul : SO X (binaryOp .Mult) opMul := ⟨fun B ms d e Q h => by
  cases d <;> cases e <;> first
    | exact False.elim h
    | (simp only [opMul] at h; split at h <;> first | exact False.elim h | exact wo_mulI (by assumption) h | exact wo_mulS (by assumption) h | (rename_i c; exact wo_repT c.1 c.2.1 c.2.2.1 c.2.2.2 h))⟩
theorem so_div : SO X (binaryOp .FloorDiv) opDiv := ⟨fun B ms d e Q h => by
  cases d <;> cases e <;> first
    | exact False.elim h
    | (simp only [opDiv] at h; split at h <;> first | exact False.elim h | exact wo_divI (by assumption) h)⟩
theorem so_mod : SO X (binaryOp .Mod) opMod := ⟨fun B ms d e Q h => by
  cases d <;> cases e <;> first
    | exact False.elim h
    | (simp only [opMod] at h; split at h <;> first | exact False.elim h | exact wo_modI (by assumption) h)⟩
theorem so_pow : SO X (binaryOp .Pow) opPow := ⟨fun B ms d e Q h => by
  cases d <;> cases e <;> first
    | exact False.elim h
    | (simp only [opPow] at h; split at h <;> first | exact False.elim h | exact wo_powI (by assumption) h)⟩

/-! ## comparisons -/
@[simp] def opLt : MO
  | .int i, .int j, ms => some (.bl (decide (i < j)), ms)
  | _, _, _ => none
@[simp] def opLe : MO
  | .int i, .int j, ms => some (.bl (decide (i ≤ j)), ms)
  | _, _, _ => none
@[simp] def opGt : MO
  | .int i, .int j, ms => some (.bl (decide (j < i)), ms)
  | _, _, _ => none
@[simp] def opGe : MO
  | .int i, .int j, ms => some (.bl (decide (j ≤ i)), ms)
  | _, _, _ => none
theorem so_lt : SO X (compareOp .Lt) opLt := ⟨fun B ms d e Q h => by cases d <;> cases e <;> first | exact False.elim h | exact wo_ltI h⟩
theorem so_le : SO X (compareOp .LtE) opLe := ⟨fun B ms d e Q h => by cases d <;> cases e <;> first | exact False.elim h | exact wo_leI h⟩
theorem so_gt : SO X (compareOp .Gt) opGt := ⟨fun B ms d e Q h => by cases d <;> cases e <;> first | exact False.elim h | exact wo_gtI h⟩
theorem so_ge : SO X (compareOp .GtE) opGe := ⟨fun B ms d e Q h => by cases d <;> cases e <;> first | exact False.elim h | exact wo_geI h⟩
@[simp] def opIsN (d e : D) (ms : List Ob) : Option (D × List Ob) := match e with
  | .non => some (.bl (isNonD d), ms)
  | _ => none
@[simp] def opNotN (d e : D) (ms : List Ob) : Option (D × List Ob) := match e with
  | .non => some (.bl (!isNonD d), ms)
  | _ => none
theorem so_is : SO X (compareOp .Is) opIsN := ⟨fun B ms d e Q h => by cases e <;> first | exact False.elim h | exact wo_isN h⟩
theorem so_isn : SO X (compareOp .IsNot) opNotN := ⟨fun B ms d e Q h => by cases e <;> first | exact False.elim h | exact wo_notN h⟩
/-- a value as a whole: a list of the store with what it holds now -/
@[simp] def imV (ms : List Ob) (d : D) : Option D := match d with
  | .obj k => match ms[k]? with
    | some (.lst xs) => some (.rol xs)
    | _ => none
  | d => some d
def Shw (d : D) : Prop := Sh d 60 1000000
theorem imV_py {ms : List Ob} {d e : D} (h : imV ms d = some e) (s : Shw e) : Py ms d (pyD e) := by
  cases d with
  | obj k =>
    simp only [imV] at h
    split at h
    · rename_i xs hk
      cases h
      have := s.py ms
      cases this with
      | rol ha => exact .lst hk ha
    · cases h
  | _ => cases h; exact s.py ms
@[simp] def eqB (ms : List Ob) (d e : D) : Option Bool := match d, e with
  | .int i, .int j => some (decide (i = j))
  | .str x, .str y => some (decide (x = y))
  | d, e => match imV ms d, imV ms e with
    | some (.rol xs), some (.rol []) => some xs.isEmpty
    | some (.tup xs), some (.tup []) => some xs.isEmpty
    | some d', some e' => if Shw d' ∧ Shw e' then some (PyData.eqv (pyD d') (pyD e')) else none
    | _, _ => none
@[simp] def opEq (d e : D) (ms : List Ob) : Option (D × List Ob) := (eqB ms d e).map fun b => (.bl b, ms)
@[simp] def opNe (d e : D) (ms : List Ob) : Option (D × List Ob) := (eqB ms d e).map fun b => (.bl (!b), ms)
theorem imV_lst {ms : List Ob} {d : D} {xs : List D} (h : imV ms d = some (.rol xs)) : lstOf ms d = some xs := by
  cases d with
  | obj k =>
    simp only [imV] at h
    split at h
    · rename_i ys hk
      cases h
      simp only [lstOf, hk]
    · cases h
  | rol ys => cases h; rfl
  | _ => cases h
theorem imV_tup {ms : List Ob} {d : D} {xs : List D} (h : imV ms d = some (.tup xs)) : d = .tup xs := by
  cases d with
  | obj k =>
    simp only [imV] at h
    split at h <;> cases h
  | tup ys => cases h; rfl
  | _ => cases h
theorem wo_eqLL {B : Bs} {ms : List Ob} {Q : D → List Ob → Prop} {xs : List D} {d e : D} (hu : X.A.units < cLine) (hk : lstOf ms d = some xs) (hl : lstOf ms e = some []) (q : Q (.bl xs.isEmpty) ms) : WO X B ms (compareOp .Eq) d e Q := WO.of (op_eqL0 hu) fun H θ x y S r1 r2 => by
  obtain ⟨p, vs, rfl, s, rs⟩ := lst_rep hk S r1
  obtain ⟨p2, vs2, rfl, s2, rs2⟩ := lst_rep hl S r2
  cases reps_nil rs2
  exact ⟨p, p2, vs, rfl, rfl, s, s2, by rw [isEmpty_reps rs, Bool.false_xor]; exact pv_same S mk_bl q⟩
theorem wo_neLL {B : Bs} {ms : List Ob} {Q : D → List Ob → Prop} {xs : List D} {d e : D} (hu : X.A.units < cLine) (hk : lstOf ms d = some xs) (hl : lstOf ms e = some []) (q : Q (.bl (!xs.isEmpty)) ms) : WO X B ms (compareOp .NotEq) d e Q := WO.of (op_neL0 hu) fun H θ x y S r1 r2 => by
  obtain ⟨p, vs, rfl, s, rs⟩ := lst_rep hk S r1
  obtain ⟨p2, vs2, rfl, s2, rs2⟩ := lst_rep hl S r2
  cases reps_nil rs2
  exact ⟨p, p2, vs, rfl, rfl, s, s2, by rw [isEmpty_reps rs, Bool.true_xor]; exact pv_same S mk_bl q⟩
theorem eqB_gen {ms : List Ob} {d e : D} {b : Bool} (h : eqB ms d e = some b) : (∃ i j, d = .int i ∧ e = .int j ∧ b = decide (i = j)) ∨ (∃ i j, d = .str i ∧ e = .str j ∧ b = decide (i = j)) ∨
    (∃ xs, lstOf ms d = some xs ∧ lstOf ms e = some [] ∧ b = xs.isEmpty) ∨ (∃ xs, d = .tup xs ∧ e = .tup [] ∧ b = xs.isEmpty) ∨ ∃ d' e', imV ms d = some d' ∧ imV ms e = some e' ∧ Shw d' ∧ Shw e' ∧ b = PyData.eqv (pyD d') (pyD e') := by
  unfold eqB at h
  split at h
  · cases h; exact .inl ⟨_, _, rfl, rfl, rfl⟩
  · cases h; exact .inr (.inl ⟨_, _, rfl, rfl, rfl⟩)
  · split at h
    · rename_i h1 h2
      cases h
      exact .inr (.inr (.inl ⟨_, imV_lst h1, imV_lst h2, rfl⟩))
    · rename_i h1 h2
      cases h
      exact .inr (.inr (.inr (.inl ⟨_, imV_tup h1, imV_tup h2, rfl⟩)))
    · rename_i h1 h2
      split at h
      · rename_i hs
        cases h
        exact .inr (.inr (.inr (.inr ⟨_, _, h1, h2, hs.1, hs.2, rfl⟩)))
      · cases h
    · cases h
theorem so_eq (hu : X.A.units + 64 < cLine) : SO X (compareOp .Eq) opEq := ⟨fun B ms d e Q h => by
  unfold opEq at h
  cases hb : eqB ms d e with
  | none => rw [hb] at h; exact h.elim
  | some b =>
    rw [hb] at h
    rcases eqB_gen hb with ⟨i, j, rfl, rfl, rfl⟩ | ⟨i, j, rfl, rfl, rfl⟩ | ⟨xs, h1, h2, rfl⟩ | ⟨xs, rfl, rfl, rfl⟩ | ⟨d', e', h1, h2, s1, s2, rfl⟩
    · exact wo_eqI h
    · exact wo_eqS h
    · exact wo_eqLL (by omega) h1 h2 h
    · exact wo_eqT0 (by omega) h
    · exact wo_eqD hu (imV_py h1 s1) (imV_py h2 s2) (shaped_of s1 (Nat.le_refl _)) (shaped_of s2 (Nat.le_refl _)) h⟩
theorem op_neT0 (hu : X.A.units < cLine) : OpR X (compareOp .NotEq) (fun x y H Q => ∃ a b xs, x = .ref a ∧ y = .ref b ∧ SqT X.K H a xs ∧ SqT X.K H b [] ∧ Q (.bl (!xs.isEmpty)) H) := by
  intro pins s σ H x y v u Q I rx ry h
  obtain ⟨a, b, xs, rfl, rfl, ha, hb, q⟩ := h
  cases rx
  cases ry
  obtain ⟨its, r1, p1, _⟩ := I.tuple ha
  obtain ⟨its2, r2, p2, _⟩ := I.tuple hb
  have z2 : its2 = [] := by cases r2; rfl
  subst z2
  refine SeqAt.RcNeAt.tuples (e := fun _ => true) p1 p2 hu (fun j _ h2 => absurd h2 (by simp)) _ _ _ _ ⟨.bl _, H, I, rfl, ?_⟩
  have e : (!((List.range (min its.toArray.size ([] : List Value).toArray.size)).all (fun _ => true) && its.toArray.size == ([] : List Value).toArray.size)) = !xs.isEmpty := by
    rw [vals_size r1]; cases xs <;> simp
  rw [e]; exact q
theorem wo_neT0 {B : Bs} {ms : List Ob} {Q : D → List Ob → Prop} {xs : List D} (hu : X.A.units < cLine) (q : Q (.bl (!xs.isEmpty)) ms) : WO X B ms (compareOp .NotEq) (.tup xs) (.tup []) Q := WO.of (op_neT0 hu) fun H θ x y S r1 r2 => by
  obtain ⟨a, vs, rfl, s1, q1⟩ := rep_tup r1
  obtain ⟨b, ws, rfl, s2, q2⟩ := rep_tup r2
  cases reps_nil q2
  exact ⟨a, b, vs, rfl, rfl, s1, s2, by rw [isEmpty_reps q1]; exact pv_same S mk_bl q⟩
theorem so_ne (hu : X.A.units + 64 < cLine) : SO X (compareOp .NotEq) opNe := ⟨fun B ms d e Q h => by
  unfold opNe at h
  cases hb : eqB ms d e with
  | none => rw [hb] at h; exact h.elim
  | some b =>
    rw [hb] at h
    rcases eqB_gen hb with ⟨i, j, rfl, rfl, rfl⟩ | ⟨i, j, rfl, rfl, rfl⟩ | ⟨xs, h1, h2, rfl⟩ | ⟨xs, rfl, rfl, rfl⟩ | ⟨d', e', h1, h2, s1, s2, rfl⟩
    · exact wo_neI h
    · exact wo_neS h
    · exact wo_neLL (by omega) h1 h2 h
    · exact wo_neT0 (by omega) h
    · exact wo_neD hu (imV_py h1 s1) (imV_py h2 s2) (shaped_of s1 (Nat.le_refl _)) (shaped_of s2 (Nat.le_refl _)) h⟩
@[simp] def opIn (d e : D) (ms : List Ob) : Option (D × List Ob) := match d, e with
  | .str x, .str z => match x.cps.toList with
    | [n] => some (.bl (decide (n ∈ z.cps.toList)), ms)
    | _ => none
  | d, e => match vOf d, (seqOf ms e).bind vsOf with
    | some v, some vs => some (.bl (inV v vs), ms)
    | _, _ => none
@[simp] def opNotIn (d e : D) (ms : List Ob) : Option (D × List Ob) := match d, e with
  | .str x, .str z => match x.cps.toList with
    | [n] => some (.bl (!decide (n ∈ z.cps.toList)), ms)
    | _ => none
  | d, e => match vOf d, (seqOf ms e).bind vsOf with
    | some v, some vs => some (.bl (!inV v vs), ms)
    | _, _ => none
theorem one_sign {x : Str} {n : Nat} (h : x.cps.toList = [n]) : x = ⟨#[n]⟩ := by
  cases x with
  | mk c => congr; rw [← Array.toList_inj]; exact h
theorem so_in : SO X (compareOp .In) opIn := ⟨fun B ms d e Q h => by
  unfold opIn at h
  split at h
  · rename_i x z
    split at h
    · rename_i n hn
      cases one_sign hn
      exact WO.of op_in_sign fun H θ u v S r1 r2 => ⟨n, z, rep_str r1, rep_str r2, pv_same S mk_bl h⟩
    · exact h.elim
  · split at h
    · rename_i v vs h1 h2
      obtain ⟨xs, h3, h4⟩ := Option.bind_eq_some_iff.mp h2
      exact WO.of op_in_seq fun H θ x y S r1 r2 => by
        obtain ⟨a, ws, rfl, s, rs⟩ := seq_rep h3 S r2
        obtain ⟨rfl, f1⟩ := vOf_rep h1 r1
        obtain ⟨rfl, f2⟩ := vsOf_rep h4 rs
        exact ⟨a, _, rfl, s, f1, f2, pv_same S mk_bl h⟩
    · exact h.elim⟩
theorem so_notIn : SO X (compareOp .NotIn) opNotIn := ⟨fun B ms d e Q h => by
  unfold opNotIn at h
  split at h
  · rename_i x z
    split at h
    · rename_i n hn
      cases one_sign hn
      exact WO.of op_notIn_sign fun H θ u v S r1 r2 => ⟨n, z, rep_str r1, rep_str r2, pv_same S mk_bl h⟩
    · exact h.elim
  · split at h
    · rename_i v vs h1 h2
      obtain ⟨xs, h3, h4⟩ := Option.bind_eq_some_iff.mp h2
      exact WO.of op_notIn_seq fun H θ x y S r1 r2 => by
        obtain ⟨a, ws, rfl, s, rs⟩ := seq_rep h3 S r2
        obtain ⟨rfl, f1⟩ := vOf_rep h1 r1
        obtain ⟨rfl, f2⟩ := vsOf_rep h4 rs
        exact ⟨a, _, rfl, s, f1, f2, pv_same S mk_bl h⟩
    · exact h.elim⟩
end
end
end VM

namespace VM
open PySem PySem.Spec PyProof.Rows L2 VL
open Classical
noncomputable section
section
variable {X : Cx} {a b c : Expr} {pos : Pos}

/-! ## built-ins -/
abbrev M1 := D → List Ob → Option (D × List Ob)
structure SC (X : Cx) (f : Value) (n : Nat) (o : List D → List Ob → Option (D × List Ob)) : Prop where
  run : ∀ B ms dl Q, dl.length = n → owp (o dl ms) Q → WC X B ms f dl Q
@[simp] def bltK (o : List D → List Ob → Option (D × List Ob)) (dl : List D) (m : List Ob) : Res D := ofO (o dl m)
@[simp] def bltE (o : List D → List Ob → Option (D × List Ob)) (as : MA) (ds : Slots) (ms : List Ob) : Res D := (as ds ms).bind (bltK o)
theorem wa_len {B : Bs} {ds : Slots} {ms : List Ob} : ∀ {es : List Expr} {Q : List D → List Ob → Prop}, WA X B ds ms es (fun dl m => dl.length = es.length → Q dl m) → (∀ e es', es = e :: es' → True) → WA X B ds ms es fun dl m => dl.length = es.length → Q dl m := fun h _ => h
theorem s_callB {x : Str} {p : Pos} {e : Expr} {es : List Expr} {id : String} {o : List D → List Ob → Option (D × List Ob)} {as : MA} (hm : X.mg x = none) (hv : bootBuiltins x = some (.builtin id)) (hg : Gl X x)
    (ho : ∀ B ms dl Q, owp (o dl ms) Q → WC X B ms (.builtin id) dl Q) (ha : SA X (e :: es) as) (hn : x ≠ "__name__" := by decide) (hdb : (x == ("__debug__" : Str)) = false := by decide)
    (he : starEach (e :: es) X.env = (false, eval e X.env) :: starEach es X.env := by rfl) (hpl : (backTo pos (starEach es X.env)).any (·.1) = false := by rfl) : SE X (.Call (.Name x p) (e :: es) [] pos) (bltE o as) := ⟨fun B ds ms Q h =>
  we_callB hm hv hg (ha.run B ds ms _ (wp_imp (wp_bind.mp h) fun dl m h => ho B m dl Q (wp_ofO.mp h))) hn hdb he hpl⟩
theorem s_callTy {x : Str} {p : Pos} {e : Expr} {es : List Expr} {T : String} {o : List D → List Ob → Option (D × List Ob)} {as : MA} (hm : X.mg x = none) (hv : bootBuiltins x = some (.type T)) (hg : Gl X x)
    (ho : ∀ B ms dl Q, owp (o dl ms) Q → WC X B ms (.type T) dl Q) (ha : SA X (e :: es) as) (hn : x ≠ "__name__" := by decide) (hdb : (x == ("__debug__" : Str)) = false := by decide)
    (he : starEach (e :: es) X.env = (false, eval e X.env) :: starEach es X.env := by rfl) (hpl : (backTo pos (starEach es X.env)).any (·.1) = false := by rfl) : SE X (.Call (.Name x p) (e :: es) [] pos) (bltE o as) := ⟨fun B ds ms Q h =>
  we_callTy hm hv hg (ha.run B ds ms _ (wp_imp (wp_bind.mp h) fun dl m h => ho B m dl Q (wp_ofO.mp h))) hn hdb he hpl⟩
abbrev MB := List D → List Ob → Option (D × List Ob)
@[simp] def bLen : MB
  | [.str x], ms => if x.length ≤ sizeLine then some (.int x.length, ms) else none
  | [.tup xs], ms => some (.int xs.length, ms)
  | [.rol xs], ms => some (.int xs.length, ms)
  | [.obj k], ms => match ms[k]? with
    | some (.lst xs) => some (.int xs.length, ms)
    | _ => none
  | _, _ => none
theorem b_len : ∀ B ms dl Q, owp (bLen dl ms) Q → WC X B ms (.builtin "len") dl Q := fun B ms dl Q h => by
  unfold bLen at h
  split at h
  · split at h
    · exact wc_lenS (by assumption) h
    · exact h.elim
  · exact wc_lenT h
  · exact wc_lenR h
  · split at h
    · exact wc_lenL (by assumption) h
    · exact h.elim
  · exact h.elim
@[simp] def bAbs : MB
  | [.int i], ms => some (.int (if i < 0 then -i else i), ms)
  | _, _ => none
theorem b_abs : ∀ B ms dl Q, owp (bAbs dl ms) Q → WC X B ms (.builtin "abs") dl Q := fun B ms dl Q h => by
  unfold bAbs at h
  split at h
  · exact wc_abs h
  · exact h.elim
@[simp] def bInt : MB
  | [.int i], ms => some (.int i, ms)
  | [.bl b], ms => some (.int (if b then 1 else 0), ms)
  | [.str x], ms => match PySem.intText? x with
    | some n => if x.length ≤ 640 then some (.int n, ms) else none
    | none => none
  | _, _ => none
theorem b_int : ∀ B ms dl Q, owp (bInt dl ms) Q → WC X B ms (.type "int") dl Q := fun B ms dl Q h => by
  unfold bInt at h
  split at h
  · exact wc_int h
  · exact wc_intB h
  · split at h
    · split at h
      · exact wc_intS (by assumption) (by assumption) h
      · exact h.elim
    · exact h.elim
  · exact h.elim
@[simp] def bStr : MB
  | [.int i], ms => if i.natAbs.log2 < 1920 then some (.str (toString i), ms) else none
  | _, _ => none
theorem b_str : ∀ B ms dl Q, owp (bStr dl ms) Q → WC X B ms (.type "str") dl Q := fun B ms dl Q h => by
  unfold bStr at h
  split at h
  · split at h
    · exact wc_strI (by assumption) h
    · exact h.elim
  · exact h.elim
@[simp] def bMax : MB
  | [.int i, .int j], ms => some (.int (if j > i then j else i), ms)
  | _, _ => none
theorem b_max (hc : X.calm = true) : ∀ B ms dl Q, owp (bMax dl ms) Q → WC X B ms (.builtin "max") dl Q := fun B ms dl Q h => by
  unfold bMax at h
  split at h
  · exact wc_max hc h
  · exact h.elim
@[simp] def bMin : MB
  | [.int i, .int j], ms => some (.int (if j < i then j else i), ms)
  | _, _ => none
theorem b_min (hc : X.calm = true) : ∀ B ms dl Q, owp (bMin dl ms) Q → WC X B ms (.builtin "min") dl Q := fun B ms dl Q h => by
  unfold bMin at h
  split at h
  · exact wc_min hc h
  · exact h.elim
@[simp] def bTup : MB
  | [.tup xs], ms => some (.tup xs, ms)
  | [d], ms => match lstOf ms d with
    | some xs => some (.tup xs, ms)
    | none => none
  | _, _ => none
theorem b_tup : ∀ B ms dl Q, owp (bTup dl ms) Q → WC X B ms (.type "tuple") dl Q := fun B ms dl Q h => by
  unfold bTup at h
  split at h
  · exact wc_tupleT h
  · split at h
    · rename_i d _ _ xs hx
      exact WC.of call_tuple_of fun H θ vs S r0 => by
        obtain ⟨v, rfl, r⟩ := reps1 r0
        obtain ⟨a, ws, rfl, s, rs⟩ := lst_rep hx S r
        exact ⟨a, ws, rfl, .inl ⟨s, fun p hp => pv_tup S rs hp h⟩⟩
    · exact h.elim
  · exact h.elim
@[simp] def bList : MB
  | [d], ms => match seqOf ms d with
    | some xs => some (.obj ms.length, ms ++ [.lst xs])
    | none => none
  | _, _ => none
theorem b_list : ∀ B ms dl Q, owp (bList dl ms) Q → WC X B ms (.type "list") dl Q := fun B ms dl Q h => by
  unfold bList at h
  split at h
  · split at h
    · rename_i d xs hx
      exact WC.of call_list_of fun H θ vs S r0 => by
        obtain ⟨v, rfl, r⟩ := reps1 r0
        obtain ⟨a, ws, rfl, s, rs⟩ := seq_rep hx S r
        exact ⟨a, ws, rfl, s, fun p hp => pv_lst S rs hp h⟩
    · exact h.elim
  · exact h.elim
@[simp] def bRepr : MB
  | [d], ms => match imV ms d with
    | some e => if Shw e then some (.str (pyD e).shown, ms) else none
    | none => none
  | _, _ => none
theorem b_repr (hgd : X.A.guards = some []) (hu : X.A.units + 70 < cLine) : ∀ B ms dl Q, owp (bRepr dl ms) Q → WC X B ms (.builtin "repr") dl Q := fun B ms dl Q h => by
  unfold bRepr at h
  split at h
  · split at h
    · split at h
      · rename_i d e he s
        exact wc_repr hgd hu (imV_py he s) s.sh s.nd (Nat.le_trans s.dp (by omega)) (shown_fits s.ls s.wt (Nat.le_refl _)) h
      · exact h.elim
    · exact h.elim
  · exact h.elim
@[simp] def bIsi : MB
  | [d, .ty "int"], ms => if tyK d = true then some (.bl (isIntB d), ms) else none
  | [d, .ty "bool"], ms => if tyK d = true then some (.bl (isBlB d), ms) else none
  | [d, .ty "tuple"], ms => if tyK d = true then some (.bl (isTupB d), ms) else none
  | [d, .ty "str"], ms => if tyK d = true then some (.bl (isStrB d), ms) else none
  | _, _ => none
theorem b_isi : ∀ B ms dl Q, owp (bIsi dl ms) Q → WC X B ms (.builtin "isinstance") dl Q := fun B ms dl Q h => by
  unfold bIsi at h
  split at h
  · split at h
    · exact wc_isiI (by assumption) h
    · exact h.elim
  · split at h
    · exact wc_isiB (by assumption) h
    · exact h.elim
  · split at h
    · exact wc_isiT (by assumption) h
    · exact h.elim
  · split at h
    · exact wc_isiS (by assumption) h
    · exact h.elim
  · exact h.elim

/-! ## subscripts -/
@[simp] def ixO (d e : D) (ms : List Ob) : Option (D × List Ob) := match d, e with
  | .tup xs, .int i => (atI xs i).map fun d => (d, ms)
  | .rol xs, .int i => (atI xs i).map fun d => (d, ms)
  | .str z, .int i => if z.length ≤ sizeLine then (atI z.cps.toList i).map fun c => (.str ⟨#[c]⟩, ms) else none
  | .obj k, .int i => match ms[k]? with
    | some (.lst xs) => (atI xs i).map fun d => (d, ms)
    | some (.dK kvs) => (valD kvs (.inl i)).map fun d => (d, ms)
    | _ => none
  | .obj k, .str x => match ms[k]? with
    | some (.dK kvs) => (valD kvs (.inr x)).map fun d => (d, ms)
    | _ => none
  | _, _ => none
theorem owp_map {α : Type} {o : Option α} {f : α → D × List Ob} {Q : D → List Ob → Prop} (h : owp (o.map f) Q) : ∃ x, o = some x ∧ Q (f x).1 (f x).2 := by
  cases o with
  | none => exact h.elim
  | some x => exact ⟨x, rfl, h⟩
@[simp] def ixE (a b : ME) (ds : Slots) (ms : List Ob) : Res D := binE ixO a b ds ms
theorem s_ix (hu : X.A.units + 64 < cLine) {ma mb : ME} (h1 : SE X a ma) (h2 : SE X b mb) (hs : PlainIx b := by exact fun _ _ => rfl) : SE X (.Subscript a b pos) (ixE ma mb) := ⟨fun B ds ms Q h =>
  we_ix (h1.run B ds ms _ (wp_imp (wp_bind.mp h) fun d m h => h2.run B ds m _ (wp_imp (wp_bind.mp h) fun e m2 h => by
    have h := wp_ofO.mp h
    unfold ixO at h
    split at h
    · obtain ⟨x, e, q⟩ := owp_map h; exact wx_T e q
    · obtain ⟨x, e, q⟩ := owp_map h; exact wx_R e q
    · split at h
      · obtain ⟨x, e, q⟩ := owp_map h; exact wx_S (by assumption) e q
      · exact h.elim
    · split at h
      · obtain ⟨x, e, q⟩ := owp_map h; exact wx_L (by assumption) e q
      · obtain ⟨x, e, q⟩ := owp_map h; exact wx_DI (by omega) (by assumption) e q
      · exact h.elim
    · split at h
      · obtain ⟨x, e, q⟩ := owp_map h; exact wx_DS (by omega) (by assumption) e q
      · exact h.elim
    · exact h.elim))) hs⟩
/-! ## slices -/
@[simp] def slO (d : D) (lo hi : Option Int) (ms : List Ob) : Option (D × List Ob) := match d with
  | .str z => if z.length ≤ sizeLine then some (.str (cutS z lo hi), ms) else none
  | .tup xs => some (.tup (cutD xs lo hi), ms)
  | d => match lstOf ms d with
    | some xs => some (.obj ms.length, ms ++ [.lst (cutD xs lo hi)])
    | none => none
abbrev MP := Slots → List Ob → Res (Option Int)
structure SP (X : Cx) (e : Option Expr) (m : MP) : Prop where
  run : ∀ B ds ms Q, wp (m ds ms) Q (XW X B) → VL.WP X B ds ms e Q
@[simp] def noP (_ : Slots) (ms : List Ob) : Res (Option Int) := .ok none ms
@[simp] def aPK (d : D) (m : List Ob) : Res (Option Int) := match d with
  | .int i => .ok (some i) m
  | _ => .bad
@[simp] def aP (a : ME) (ds : Slots) (ms : List Ob) : Res (Option Int) := (a ds ms).bind aPK
theorem sp_no : SP X none noP := ⟨fun B ds ms Q h => h⟩
theorem sp_a {m : ME} (h1 : SE X a m) : SP X (some a) (aP m) := ⟨fun B ds ms Q h => h1.run B ds ms _ (wp_imp (wp_bind.mp h) fun d m h => by
  cases d with
  | int i => exact ⟨i, rfl, h⟩
  | _ => exact h.elim)⟩
@[simp] def slK3 (d : D) (l u : Option Int) (m : List Ob) : Res D := ofO (slO d l u m)
@[simp] def slK2 (hi : MP) (ds : Slots) (d : D) (l : Option Int) (m : List Ob) : Res D := (hi ds m).bind (slK3 d l)
@[simp] def slK (lo hi : MP) (ds : Slots) (d : D) (m : List Ob) : Res D := (lo ds m).bind (slK2 hi ds d)
@[simp] def slE (a : ME) (lo hi : MP) (ds : Slots) (ms : List Ob) : Res D := (a ds ms).bind (slK lo hi ds)
theorem wl_lst {B : Bs} {ms : List Ob} {Q : D → List Ob → Prop} {d : D} {xs : List D} {lo hi : Option Int} (hk : lstOf ms d = some xs) (q : Q (.obj ms.length) (ms ++ [.lst (cutD xs lo hi)])) : WL X B ms d lo hi Q := WL.of sl_list fun H θ x S r => by
  obtain ⟨p, vs, rfl, s, rs⟩ := lst_rep hk S r
  exact ⟨p, vs, rfl, s, fun l hl => pv_lst S (rs.cut lo hi) hl q⟩
theorem s_sl {lo hi : Option Expr} {p2 : Pos} {m : ME} {ml mh : MP} (h1 : SE X a m) (h2 : SP X lo ml) (h3 : SP X hi mh) : SE X (.Subscript a (.Slice lo hi none p2) pos) (slE m ml mh) := ⟨fun B ds ms Q h =>
  we_slice (h1.run B ds ms _ (wp_imp (wp_bind.mp h) fun d m h => h2.run B ds m _ (wp_imp (wp_bind.mp h) fun l m2 h => h3.run B ds m2 _ (wp_imp (wp_bind.mp h) fun u m3 h => by
    have h := wp_ofO.mp h
    unfold slO at h
    split at h
    · split at h
      · exact wl_S (by assumption) h
      · exact h.elim
    · exact wl_T h
    · split at h
      · exact wl_lst (by assumption) h
      · exact h.elim))))⟩
/-- xs[::-1] -/
@[simp] def revO (d : D) (ms : List Ob) : Option (D × List Ob) := match d with
  | .str z => if z.length ≤ sizeLine then some (.str ⟨z.cps.toList.reverse.toArray⟩, ms) else none
  | .tup xs => some (.tup xs.reverse, ms)
  | _ => none
@[simp] def revLO (d : D) (ms : List Ob) : Option (D × List Ob) := match lstOf ms d with
  | some xs => some (.obj ms.length, ms ++ [.lst xs.reverse])
  | none => none
@[simp] def revK (d : D) (m : List Ob) : Res D := ofO (revO d m)
@[simp] def revE (a : ME) (ds : Slots) (ms : List Ob) : Res D := (a ds ms).bind revK
@[simp] def revLK (d : D) (m : List Ob) : Res D := ofO (revLO d m)
@[simp] def revLE (a : ME) (ds : Slots) (ms : List Ob) : Res D := (a ds ms).bind revLK
theorem s_rev {k : Nat} {p1 p2 p3 : Pos} {m : ME} (h1 : SE X a m) : SE X (.Subscript a (.Slice none none (some (.UnaryOp .USub (.Constant (.int 1) k p1) p2)) p3) pos) (revE m) := ⟨fun B ds ms Q h =>
  WE.pe (pe_revT pe_can) fun σ H θ S L => (h1.run B ds ms _ (wp_imp (wp_bind.mp h) fun d m h => wp_ofO.mp h)).bind S L fun d m v H1 more q r im S1 L1 => by
    cases d with
    | str z =>
      simp only [revO] at q
      split at q
      · exact .inr ⟨z, rep_str r, by assumption, PV.trans im (pv_same S1 mk_str q)⟩
      · exact q.elim
    | tup xs =>
      obtain ⟨p, vs, rfl, s, rs⟩ := rep_tup r
      exact .inl ⟨p, vs, rfl, s, fun p hp => (pv_tup S1 rs.reverse hp q).trans im⟩
    | _ => exact q.elim⟩
theorem s_revL {k : Nat} {p1 p2 p3 : Pos} {m : ME} (h1 : SE X a m) : SE X (.Subscript a (.Slice none none (some (.UnaryOp .USub (.Constant (.int 1) k p1) p2)) p3) pos) (revLE m) := ⟨fun B ds ms Q h =>
  WE.pe (pe_revL pe_can) fun σ H θ S L => (h1.run B ds ms _ (wp_imp (wp_bind.mp h) fun d m h => wp_ofO.mp h)).bind S L fun d m v H1 more q r im S1 L1 => by
    unfold revLO at q
    split at q
    · rename_i xs hx
      obtain ⟨p, vs, rfl, s, rs⟩ := lst_rep hx S1 r
      exact ⟨p, vs, rfl, s, fun l hl => (pv_lst S1 rs.reverse hl q).trans im⟩
    · exact q.elim⟩

/-! ## attributes -/
@[simp] def atK (Cs : List Str) (f : Str) (d : D) (m : List Ob) : Res D := match d with
  | .obj k => match m[k]? with
    | some (.ins C fs) => if C ∈ Cs then match fs.lookup f with
        | some e => .ok e m
        | none => .bad
      else .bad
    | _ => .bad
  | _ => .bad
@[simp] def atE (Cs : List Str) (f : Str) (a : ME) (ds : Slots) (ms : List Ob) : Res D := (a ds ms).bind (atK Cs f)
theorem s_at {Cs : List Str} {f : Str} {m : ME} (h1 : SE X a m) (hC : ∀ c ∈ Cs, ∃ C, ClsN X.K c C ∧ Cls X.K C ∧ NoAttr X.K C f) (hb : attributeBase a f X.env (eval a X.env) = eval a X.env := by rfl) : SE X (.Attribute a f pos) (atE Cs f m) := ⟨fun B ds ms Q h =>
  we_attr (h1.run B ds ms _ (wp_imp (wp_bind.mp h) fun d m h => by
    unfold atK at h
    split at h
    · split at h
      · split at h
        · split at h
          · obtain ⟨C, h1, h2, h3⟩ := hC _ (by assumption)
            exact ⟨_, _, C, _, _, rfl, by assumption, h1, h2, h3, by assumption, h⟩
          · exact h.elim
        · exact h.elim
      · exact h.elim
    · exact h.elim)) hb⟩

/-! ## methods of built-in types -/
@[simp] def tyB (T : String) (d : D) (ms : List Ob) : Bool := match d with
  | .str _ => T == "str"
  | .rol _ => T == "list"
  | .obj k => match ms[k]? with
    | some (.lst _) => T == "list"
    | some (.dK _) => T == "dict"
    | some (.dT _) => T == "dict"
    | _ => false
  | _ => false
theorem tyB_D {T : String} {d : D} {ms : List Ob} (h : tyB T d ms = true) : TyD T d ms := by
  cases d with
  | str x => simpa [tyB, TyD] using h
  | rol x => simpa [tyB, TyD] using h
  | obj k =>
    simp only [tyB] at h
    split at h
    · exact .inl ⟨by simpa using h, _, by assumption⟩
    · exact .inr (.inl ⟨by simpa using h, _, by assumption⟩)
    · exact .inr (.inr ⟨by simpa using h, _, by assumption⟩)
    · cases h
  | _ => cases h
abbrev MM := D → List D → List Ob → Option (D × List Ob)
@[simp] def mthK2 (o : MM) (d : D) (dl : List D) (m : List Ob) : Res D := ofO (o d dl m)
@[simp] def mthK (T : String) (o : MM) (as : MA) (ds : Slots) (d : D) (m : List Ob) : Res D := if tyB T d m = true then (as ds m).bind (mthK2 o d) else .bad
@[simp] def mthE (T : String) (o : MM) (a : ME) (as : MA) (ds : Slots) (ms : List Ob) : Res D := (a ds ms).bind (mthK T o as ds)
theorem s_mth {T id : String} {name : Str} {apos : Pos} {e : Expr} {es : List Expr} {o : MM} {m : ME} {as : MA} (pa : PlainAttrs T) (slot : Slot T name id) (hty : typeOf (.builtin id) = pure (.type "method_descriptor"))
    (ho : ∀ B ms d dl Q, owp (o d dl ms) Q → WM X B ms id d dl Q) (h1 : SE X a m) (h2 : SA X (e :: es) as)
    (hbase : attributeBase a name X.env (eval a X.env) = eval a X.env := by rfl)
    (hfew : ((backTo pos (starEach (e :: es) X.env)).all (fun x => !x.1) && (backToKw pos (keywordEach [] X.env)).all (fun x => x.1.isSome)
      && decide ((e :: es).length + ([] : List Keyword).length + (if ([] : List Keyword).isEmpty then 0 else 1) < 30)) = true := by rfl)
    (hline : (apos.endLine == pos.line) = true := by rfl) (hs : starEach (e :: es) X.env = (false, eval e X.env) :: starEach es X.env := by rfl) (hplain : (backTo pos (starEach es X.env)).any (·.1) = false := by rfl) :
    SE X (.Call (.Attribute a name apos) (e :: es) [] pos) (mthE T o m as) := ⟨fun B ds ms Q h =>
  we_bm pa slot hty (h1.run B ds ms _ (wp_imp (wp_bind.mp h) fun d m h => by
    unfold mthK at h
    split at h
    · exact ⟨tyB_D (by assumption), h2.run B ds m _ (wp_imp (wp_bind.mp h) fun dl m2 h => ho B m2 d dl Q (wp_ofO.mp h))⟩
    · exact h.elim)) hbase hfew hline hs hplain⟩
theorem s_mth0 {T id : String} {name : Str} {apos : Pos} {o : MM} {m : ME} (pa : PlainAttrs T) (slot : Slot T name id) (hty : typeOf (.builtin id) = pure (.type "method_descriptor"))
    (ho : ∀ B ms d dl Q, owp (o d dl ms) Q → WM X B ms id d dl Q) (h1 : SE X a m)
    (hbase : attributeBase a name X.env (eval a X.env) = eval a X.env := by rfl) (hline : (apos.endLine == pos.line) = true := by rfl) : SE X (.Call (.Attribute a name apos) [] [] pos) (mthE T o m aNil) := ⟨fun B ds ms Q h =>
  we_bm0 pa slot hty (h1.run B ds ms _ (wp_imp (wp_bind.mp h) fun d m h => by
    unfold mthK at h
    split at h
    · exact ⟨tyB_D (by assumption), ho B m d [] Q (wp_ofO.mp h)⟩
    · exact h.elim)) hbase hline⟩
@[simp] def mAppend : MM
  | .obj k, [d], ms => match ms[k]? with
    | some (.lst xs) => if xs.length < sizeLine then some (.non, ms.set k (.lst (xs ++ [d]))) else none
    | _ => none
  | _, _, _ => none
theorem m_append : ∀ B ms d dl Q, owp (mAppend d dl ms) Q → WM X B ms "list.append" d dl Q := fun B ms d dl Q h => by
  unfold mAppend at h
  split at h
  · split at h
    · split at h
      · exact wm_append (by assumption) (by assumption) h
      · exact h.elim
    · exact h.elim
  · exact h.elim
@[simp] def mExtend : MM
  | .obj k, [e], ms => match ms[k]?, lstOf ms e with
    | some (.lst xs), some ys => if xs.length + ys.length ≤ sizeLine then some (.non, ms.set k (.lst (xs ++ ys))) else none
    | _, _ => none
  | _, _, _ => none
theorem m_extend : ∀ B ms d dl Q, owp (mExtend d dl ms) Q → WM X B ms "list.extend" d dl Q := fun B ms d dl Q h => by
  unfold mExtend at h
  split at h
  · split at h
    · split at h
      · rename_i xs ys hk hj hl
        exact WM.of mt_extS fun H θ x vs S r r0 => by
          obtain ⟨a, e, rfl⟩ := rep_obj r
          obtain ⟨w, rfl, rw'⟩ := reps1 r0
          obtain ⟨b, ws, rfl, s2, rs2⟩ := lst_repS hj S rw'
          obtain ⟨vs, s, rs⟩ := S.obs _ _ a hk e
          exact ⟨a, b, vs, ws, rfl, rfl, s, s2, by rw [rs.length, rs2.length]; exact hl, pv_set S e (rs.append rs2) mk_non h⟩
      · exact h.elim
    · exact h.elim
  · exact h.elim
/-- xs.index(y): what is flat -/
def idxV (y : V) : List V → Nat → Option Nat
  | [], _ => none
  | z :: zs, n => if eqV z y = true then some n else idxV y zs (n + 1)
theorem idxV_spec {y : V} : ∀ {zs : List V} {n j : Nat}, idxV y zs n = some j → n ≤ j ∧ ∃ z, zs[j - n]? = some z ∧ eqV z y = true ∧ ∀ (m : Nat) (z' : V), m < j - n → zs[m]? = some z' → eqV z' y = false
  | [], _, _, h => by cases h
  | z :: zs, n, j, h => by
    unfold idxV at h
    split at h
    · rename_i e
      cases h
      exact ⟨Nat.le_refl _, z, by rw [Nat.sub_self]; rfl, e, fun m z' hm _ => by omega⟩
    · rename_i e
      obtain ⟨h1, w, h2, h3, h4⟩ := idxV_spec h
      refine ⟨by omega, w, by rw [show j - n = (j - (n + 1)) + 1 by omega]; exact h2, h3, fun m z' hm hz => ?_⟩
      cases m with
      | zero => cases hz; simpa using e
      | succ m => exact h4 m z' (by omega) hz
@[simp] def mIndex (d : D) (dl : List D) (ms : List Ob) : Option (D × List Ob) := match dl with
  | [e] => match vOf e, (lstOf ms d).bind vsOf with
    | some y, some ys => (idxV y ys 0).map fun j => (.int (j : Nat), ms)
    | _, _ => none
  | _ => none
theorem m_index : ∀ B ms d dl Q, owp (mIndex d dl ms) Q → WM X B ms "list.index" d dl Q := fun B ms d dl Q h => by
  unfold mIndex at h
  split at h
  · split at h
    · rename_i e y ys h1 h2
      obtain ⟨j, hj, hq⟩ := owp_map h
      obtain ⟨xs, h3, h4⟩ := Option.bind_eq_some_iff.mp h2
      obtain ⟨_, z, k1, k2, k3⟩ := idxV_spec hj
      exact WM.of mt_index fun H θ x vs S r r0 => by
        obtain ⟨a, ws, rfl, s, rs⟩ := lst_rep h3 S r
        obtain ⟨v, rfl, rv⟩ := reps1 r0
        obtain ⟨rfl, f1⟩ := vOf_rep h1 rv
        obtain ⟨rfl, f2⟩ := vsOf_rep h4 rs
        exact ⟨a, _, _, j, z, rfl, rfl, s, f1, f2, k1, k2, k3, pv_same S mk_int hq⟩
    · exact h.elim
  · exact h.elim
@[simp] def mLjust : MM
  | .str x, [.int i, .str f], ms => if PadOk i = true ∧ f.length = 1 then some (.str (Txt.ljustF x i (f.cps.getD 0 0)), ms) else none
  | _, _, _ => none
theorem m_ljust : ∀ B ms d dl Q, owp (mLjust d dl ms) Q → WM X B ms "str.ljust" d dl Q := fun B ms d dl Q h => by
  unfold mLjust at h
  split at h
  · split at h
    · rename_i c; exact wm_ljust c.1 c.2 h
    · exact h.elim
  · exact h.elim
@[simp] def mFind : MM
  | .str x, [.str y], ms => some (.int (Txt.find x y), ms)
  | _, _, _ => none
theorem m_find : ∀ B ms d dl Q, owp (mFind d dl ms) Q → WM X B ms "str.find" d dl Q := fun B ms d dl Q h => by
  unfold mFind at h
  split at h
  · exact wm_find h
  · exact h.elim
@[simp] def mSplit : MM
  | .str x, [.str y], ms => if (y.length == 0) = false ∧ x.length + 2 ≤ sizeLine then some (.obj ms.length, ms ++ [.lst ((Txt.split x y).map D.str)]) else none
  | _, _, _ => none
theorem m_split : ∀ B ms d dl Q, owp (mSplit d dl ms) Q → WM X B ms "str.split" d dl Q := fun B ms d dl Q h => by
  unfold mSplit at h
  split at h
  · split at h
    · rename_i c; exact wm_split c.1 c.2 h
    · exact h.elim
  · exact h.elim
/-- the texts of a list of texts -/
def strsOf : List D → Option (List Str)
  | [] => some []
  | .str x :: ds => (strsOf ds).map fun r => x :: r
  | _ :: _ => none
@[simp] theorem strsOf_map (l : List Str) : strsOf (l.map D.str) = some l := by
  induction l with
  | nil => rfl
  | cons a l ih => rw [List.map_cons]; unfold strsOf; rw [ih]; rfl
theorem strsOf_eq : ∀ {ds : List D} {l : List Str}, strsOf ds = some l → ds = l.map D.str
  | [], _, h => by cases h; rfl
  | d :: ds, l, h => by
    cases d with
    | str x =>
      unfold strsOf at h
      obtain ⟨r, h1, h2⟩ := Option.map_eq_some_iff.mp h
      cases h2
      rw [strsOf_eq h1]; rfl
    | _ => cases h
@[simp] def mJoin : MM
  | .str x, [e], ms => match (seqOf ms e).bind strsOf with
    | some ys => if (ys.map (·.length)).sum + ys.length * x.length ≤ 16777216 then some (.str (Txt.join x ys), ms) else none
    | none => none
  | _, _, _ => none
theorem m_join : ∀ B ms d dl Q, owp (mJoin d dl ms) Q → WM X B ms "str.join" d dl Q := fun B ms d dl Q h => by
  unfold mJoin at h
  split at h
  · split at h
    · split at h
      · rename_i x e ms ys hy hl
        obtain ⟨xs, h1, h2⟩ := Option.bind_eq_some_iff.mp hy
        cases strsOf_eq h2
        exact WM.of mt_join fun H θ y vs S r r0 => by
          obtain ⟨v, rfl, r1⟩ := reps1 r0
          obtain ⟨a, ws, rfl, s, rs⟩ := seq_rep h1 S r1
          exact ⟨x, a, ys, rep_str r, rfl, by rw [← rs.strs]; exact s, hl, pv_same S mk_str h⟩
      · exact h.elim
    · exact h.elim
  · exact h.elim
end
end
end VM

namespace VM
open PySem PySem.Spec PyProof.Rows L2 VL
open Classical
noncomputable section

/-! ## targets -/
@[simp] def gNm (i : Nat) (d : D) (ds : Slots) (ms : List Ob) : Res Slots := .ok (ds.set i (some d)) ms
abbrev MGs := List D → Slots → List Ob → Res Slots
@[simp] def gNil (dl : List D) (ds : Slots) (ms : List Ob) : Res Slots := match dl with
  | [] => .ok ds ms
  | _ => .bad
@[simp] def gCons (g : MG) (gs : MGs) (dl : List D) (ds : Slots) (ms : List Ob) : Res Slots := match dl with
  | d :: dl => (g d ds ms).bind (gs dl)
  | [] => .bad
/-- what is taken apart -/
@[simp] def unpO (ms : List Ob) (d : D) : Option (List D) := match d with
  | .tup dl => some dl
  | .str ⟨⟨[a, b]⟩⟩ => some [dS [a], dS [b]]
  | d => lstOf ms d
@[simp] def gTup (n : Nat) (gs : MGs) (d : D) (ds : Slots) (ms : List Ob) : Res Slots := match unpO ms d with
  | some dl => if dl.length = n then gs dl ds ms else .bad
  | none => .bad
structure SGs (X : Cx) (es : List Expr) (gs : MGs) : Prop where
  run : ∀ B dl ds ms N, wp (gs dl ds ms) N (XW X B) → WGs X B ds ms es dl N
section
variable {X : Cx} {a b c tg e : Expr} {pos : Pos}
theorem g_nm (i : Nat) {x : Str} (hN : X.N.Nodup) (hi : X.N[i]? = some x) (hx : Loc X.env.scope x) (hf' : X.fn x = true ∨ X.env.scope.names.lookup x = some .local) : SG X (.Name x pos) (gNm i) := ⟨fun B d ds ms N h => wg_name i hN hi hx hf' h⟩
theorem gs_nil : SGs X [] gNil := ⟨fun B dl ds ms N h => by
  cases dl with
  | nil => exact h
  | cons _ _ => exact h.elim⟩
theorem gs_cons {es : List Expr} {g : MG} {gs : MGs} (h1 : SG X e g) (h2 : SGs X es gs) : SGs X (e :: es) (gCons g gs) := ⟨fun B dl ds ms N h => by
  cases dl with
  | nil => exact h.elim
  | cons d dl => exact h1.run B d ds ms _ (wp_imp (wp_bind.mp h) fun ds' m' h => h2.run B dl ds' m' N h)⟩
theorem wg_lsts {B : Bs} {ds : Slots} {ms : List Ob} {es : List Expr} {k : Nat} {dl : List D} {d : D} {N : List (Option D) → List Ob → Prop} (hc : X.calm = true) (hn : noStar es = true) (hj : lstOf ms d = some dl) (hl : dl.length = (assignEach es X.env).length) (h : WGs X B ds ms es dl N)
    (hst : (assignEach es X.env).findIdx? (·.1) = none := by rfl) : WG X B ds ms (.Tuple es k pos) d N :=
  WG.pg (pg_unl hc pgs_can rfl hst) fun σ H θ v S L r => by
    obtain ⟨a, vs, rfl, s, rs⟩ := lst_rep hj S r
    exact ⟨a, vs, rfl, s, by rw [rs.length]; exact hl, h.can es (noStar_each es hn) σ H θ vs S L rs⟩
theorem g_tup {es : List Expr} {k n : Nat} {gs : MGs} (hc : X.calm = true) (hn : noStar es = true) (hl : (assignEach es X.env).length = n) (h1 : SGs X es gs) (hst : (assignEach es X.env).findIdx? (·.1) = none := by rfl) : SG X (.Tuple es k pos) (gTup n gs) := ⟨fun B d ds ms N h => by
  unfold gTup at h
  split at h
  · rename_i dl hd
    split at h
    · rename_i hlen
      have hw := h1.run B dl ds ms N h
      unfold unpO at hd
      split at hd
      · cases hd; exact wg_tup hc hn (hlen.trans hl.symm) hw hst
      · cases hd; exact wg_str2 hc hn (by rw [hl, ← hlen]; rfl) hw hst
      · exact wg_lsts hc hn hd (hlen.trans hl.symm) hw hst
    · exact h.elim
  · exact h.elim⟩
@[simp] def gAtK (Cs : List Str) (f : Str) (d : D) (ds : Slots) (e : D) (m : List Ob) : Res Slots := match e with
  | .obj k => match m[k]? with
    | some (.ins C fs) => if C ∈ Cs ∧ fs.length < 999 then .ok ds (m.set k (.ins C (putFD f d fs))) else .bad
    | _ => .bad
  | _ => .bad
@[simp] def gAt (Cs : List Str) (f : Str) (o : ME) (d : D) (ds : Slots) (ms : List Ob) : Res Slots := (o ds ms).bind (gAtK Cs f d ds)
theorem g_at {Cs : List Str} {o : Expr} {f : Str} {mo : ME} (h1 : SE X o mo) (hC : ∀ c ∈ Cs, ∃ C, ClsN X.K c C ∧ Cls X.K C ∧ NoAttr X.K C f)
    (ha : ∀ v, assign (.Attribute o f pos) X.env v = (do
      let ov ← holding [v] (eval o X.env)
      standAt pos.atName
      holding [v, ov] (setAttr ov f v)
      release [v, ov] []) := by intro _; rfl) : SG X (.Attribute o f pos) (gAt Cs f mo) := ⟨fun B d ds ms N h =>
  wg_attr (h1.run B ds ms _ (wp_imp (wp_bind.mp h) fun e m h => by
    unfold gAtK at h
    split at h
    · split at h
      · split at h
        · rename_i c
          obtain ⟨C, h1, h2, h3⟩ := hC _ c.1
          exact ⟨_, _, C, _, rfl, by assumption, h1, h2, h3, Nat.lt_trans c.2 (by decide), h⟩
        · exact h.elim
      · exact h.elim
    · exact h.elim)) ha⟩
@[simp] def gSubK2 (d : D) (ds : Slots) (e f : D) (m2 : List Ob) : Res Slots := match e, f with
  | .obj k, .int n => match m2[k]? with
    | some (.lst xs) => match ixN xs.length n with
      | some j => .ok ds (m2.set k (.lst (xs.set j d)))
      | none => .bad
    | _ => .bad
  | _, _ => .bad
@[simp] def gSubK (i : ME) (d : D) (ds : Slots) (e : D) (m : List Ob) : Res Slots := (i ds m).bind (gSubK2 d ds e)
@[simp] def gSub (o i : ME) (d : D) (ds : Slots) (ms : List Ob) : Res Slots := (o ds ms).bind (gSubK i d ds)
theorem g_sub {o i : Expr} {mo mi : ME} (h1 : SE X o mo) (h2 : SE X i mi)
    (ha : ∀ v, assign (.Subscript o i pos) X.env v = (do
      let ov ← holding [v] (eval o X.env)
      let iv ← holding [v, ov] (eval i X.env)
      standAt pos
      holding [v, ov, iv] (setItem ov iv v)
      release [v, ov, iv] []) := by intro _; rfl) : SG X (.Subscript o i pos) (gSub mo mi) := ⟨fun B d ds ms N h =>
  wg_subL (h1.run B ds ms _ (wp_imp (wp_bind.mp h) fun e m h => h2.run B ds m _ (wp_imp (wp_bind.mp h) fun f m2 h => by
    unfold gSubK2 at h
    split at h
    · split at h
      · split at h
        · exact ⟨_, _, _, _, rfl, rfl, by assumption, by assumption, h⟩
        · exact h.elim
      · exact h.elim
    · exact h.elim))) ha⟩

/-! ## statements -/
@[simp] def skipS (ds : Slots) (ms : List Ob) : Res Fl := .ok (.nx ds) ms
@[simp] def sqK (t : MS) (f : Fl) (m : List Ob) : Res Fl := match f with
  | .nx ds => t ds m
  | f => .ok f m
@[simp] def sqS (s t : MS) (ds : Slots) (ms : List Ob) : Res Fl := (s ds ms).bind (sqK t)
@[simp] def exprK (ds : Slots) (_ : D) (m : List Ob) : Res Fl := .ok (.nx ds) m
@[simp] def exprS (e : ME) (ds : Slots) (ms : List Ob) : Res Fl := (e ds ms).bind (exprK ds)
@[simp] def setK (i : Nat) (ds : Slots) (d : D) (m : List Ob) : Res Fl := .ok (.nx (ds.set i (some d))) m
@[simp] def setS (i : Nat) (e : ME) (ds : Slots) (ms : List Ob) : Res Fl := (e ds ms).bind (setK i ds)
@[simp] def asgK2 (ds : Slots) (m : List Ob) : Res Fl := .ok (.nx ds) m
@[simp] def asgK (g : MG) (ds : Slots) (d : D) (m : List Ob) : Res Fl := (g d ds m).bind asgK2
@[simp] def asgS (g : MG) (e : ME) (ds : Slots) (ms : List Ob) : Res Fl := (e ds ms).bind (asgK g ds)
@[simp] def parK2 (i j : Nat) (ds : Slots) (d e : D) (m : List Ob) : Res Fl := .ok (.nx ((ds.set i (some d)).set j (some e))) m
@[simp] def parK (i j : Nat) (b : ME) (ds : Slots) (d : D) (m : List Ob) : Res Fl := (b ds m).bind (parK2 i j ds d)
@[simp] def parS (i j : Nat) (a b : ME) (ds : Slots) (ms : List Ob) : Res Fl := (a ds ms).bind (parK i j b ds)
@[simp] def retK (d : D) (m : List Ob) : Res Fl := .ok (.rt d) m
@[simp] def retS (e : ME) (ds : Slots) (ms : List Ob) : Res Fl := (e ds ms).bind retK
@[simp] def retN (_ : Slots) (ms : List Ob) : Res Fl := .ok (.rt .non) ms
@[simp] def brkS (ds : Slots) (ms : List Ob) : Res Fl := .ok (.bk ds) ms
@[simp] def ifK (s t : MS) (ds : Slots) (k : Bool) (m : List Ob) : Res Fl := if k then s ds m else t ds m
@[simp] def ifS (c : MT) (s t : MS) (ds : Slots) (ms : List Ob) : Res Fl := (c ds ms).bind (ifK s t ds)
theorem ss_nil : SSs X [] skipS := ⟨fun B fl ds ms E h => wss_nil h⟩
theorem wpS_sq {s t : MS} {ds : Slots} {ms : List Ob} {E : En} {W : Xd → Slots → List Ob → Prop} (h : wpS (sqS s t ds ms) E W) : wpS (s ds ms) { E with nx := fun ds' m' => wpS (t ds' m') E W } W := by
  unfold wpS at h ⊢
  refine wp_imp (wp_bind.mp h) fun f m h => ?_
  cases f <;> exact h
theorem ss_cons {st : Stmt} {rest : List Stmt} {s t : MS} (h1 : SS X st s) (h2 : SSs X rest t) : SSs X (st :: rest) (sqS s t) := ⟨fun B fl ds ms E h =>
  wss_cons (h1.run B fl ds ms _ (by
    have h := wpS_sq h
    unfold wpS at h ⊢
    refine wp_imp h fun f m h => ?_
    cases f with
    | nx ds' => exact h2.run B fl ds' m E h
    | _ => exact h))⟩
theorem ss_one {st : Stmt} {s : MS} (h1 : SS X st s) : SSs X [st] s := ⟨fun B fl ds ms E h => wss_one (h1.run B fl ds ms E h)⟩
theorem ws_pass_ : SS X (.Pass pos) skipS := ⟨fun B fl ds ms E h => ws_pass h⟩
theorem st_brk : SS X (.Break pos) brkS := ⟨fun B fl ds ms E h => ws_break h⟩
theorem st_doc {x : Str} {j : Nat} {pos' : Pos} : SS X (.Expr (.Constant (.str x) j pos) pos') skipS := ⟨fun B fl ds ms E h => ws_doc h⟩
theorem st_ret {m : ME} (h1 : SE X e m) : SS X (.Return (some e) pos) (retS m) := ⟨fun B fl ds ms E h => ws_ret (h1.run B ds ms _ (wp_bind.mp h))⟩
theorem st_retN : SS X (.Return none pos) retN := ⟨fun B fl ds ms E h => ws_retN h⟩
theorem st_expr {m : ME} (h1 : SE X e m) (hs : swapsWith e none pos.line X.env = pure false := by rfl) : SS X (.Expr e pos) (exprS m) := ⟨fun B fl ds ms E h => ws_expr (h1.run B ds ms _ (wp_bind.mp h)) hs⟩
theorem st_set (i : Nat) {x : Str} {pos' : Pos} {m : ME} (hN : X.N.Nodup) (hi : X.N[i]? = some x) (hx : Loc X.env.scope x) (hf' : X.fn x = true ∨ X.env.scope.names.lookup x = some .local) (h1 : SE X e m)
    (hs : swapsWith e (some (.Name x pos')) pos.line X.env = pure false := by rfl) : SS X (.Assign [.Name x pos'] e pos) (setS i m) := ⟨fun B fl ds ms E h => ws_set i hN hi hx hf' (h1.run B ds ms _ (wp_bind.mp h)) hs⟩
theorem st_asg {m : ME} {g : MG} (h1 : SE X e m) (h2 : SG X tg g) (hs : swapsWithSole [tg] e pos.line X.env = pure false := by rfl) (hw : swappedStores [tg] e X.env = pure none := by rfl)
    (h3 : (assignEach [tg] X.env).map (·.2) = [assign tg X.env] := by rfl) : SS X (.Assign [tg] e pos) (asgS g m) := ⟨fun B fl ds ms E h =>
  ws_asg (h1.run B ds ms _ (wp_imp (wp_bind.mp h) fun d m h => h2.run B d ds m _ (wp_bind.mp h))) hs hw h3⟩
theorem st_par (i j : Nat) {x y : Str} {px py pt : Pos} {kt k2 pt2} {ma mb : ME} (hc : X.calm = true) (hN : X.N.Nodup) (hi : X.N[i]? = some x) (hj : X.N[j]? = some y) (hij : i ≠ j)
    (hx : X.env.scope.names.lookup x = some .local) (hy : X.env.scope.names.lookup y = some .local) (h1 : SE X a ma) (h2 : SE X b mb)
    (hw : swappedStores [.Tuple [.Name x px, .Name y py] kt pt] (.Tuple [a, b] k2 pt2) X.env = pure (some [x, y]) := by rfl)
    (hsa : starEach [a, b] X.env = (false, eval a X.env) :: starEach [b] X.env := by rfl) (hsb : starEach [b] X.env = (false, eval b X.env) :: starEach [] X.env := by rfl)
    (hs : swapsWithSole [.Tuple [.Name x px, .Name y py] kt pt] (.Tuple [a, b] k2 pt2) pos.line X.env = pure false := by rfl) :
    SS X (.Assign [.Tuple [.Name x px, .Name y py] kt pt] (.Tuple [a, b] k2 pt2) pos) (parS i j ma mb) := ⟨fun B fl ds ms E h =>
  ws_par i j hc hN hi hj hij hx hy (h1.run B ds ms _ (wp_imp (wp_bind.mp h) fun d m h => h2.run B ds m _ (wp_bind.mp h))) hw hsa hsb hs⟩
theorem st_if {c : Expr} {sa sb : List Stmt} {mc : MT} {s t : MS} (hc : ST X c mc) (h1 : SSs X sa s) (h2 : SSs X sb t) : SS X (.If c sa sb pos) (ifS mc s t) := ⟨fun B fl ds ms E h =>
  ws_if (hc.run B ds ms _ (wp_imp (wp_bind.mp h) fun k m h => ⟨fun e => by subst e; exact h1.run B fl ds m E h, fun e => by subst e; exact h2.run B fl ds m E h⟩))⟩
/-- name op= e -/
@[simp] def augK (i : Nat) (o : MO) (ds : Slots) (d0 d : D) (m : List Ob) : Res Fl := (ofO (o d0 d m)).bind (setK i ds)
@[simp] def augS (i : Nat) (o : MO) (e : ME) (ds : Slots) (ms : List Ob) : Res Fl := match ds[i]? with
  | some (some d0) => (e ds ms).bind (augK i o ds d0)
  | _ => .bad
theorem st_aug (i : Nat) {x : Str} {op : Operator} {pos' : Pos} {o : MO} {m : ME} (hN : X.N.Nodup) (hi : X.N[i]? = some x) (hx : Loc X.env.scope x) (hf' : X.fn x = true ∨ X.env.scope.names.lookup x = some .local) (ho : SO X (inplaceOp op) o) (h1 : SE X e m) :
    SS X (.AugAssign (.Name x pos') op e pos) (augS i o m) := ⟨fun B fl ds ms E h => by
  unfold augS at h
  split at h
  · rename_i d0 hd
    exact ws_aug i hN hi hx hf' hd (h1.run B ds ms _ (wp_imp (wp_bind.mp h) fun d m h => ho.run B m d0 d _ (wp_ofO.mp (wp_bind.mp h))))
  · exact h.elim⟩

/-! ## forgetting -/
/-- slots that are not asked for any more -/
@[simp] def killD (ds : Slots) : List Nat → Slots
  | [] => ds
  | i :: r => (killD ds r).set i none
theorem killD_len (ds : Slots) : ∀ l : List Nat, (killD ds l).length = ds.length
  | [] => rfl
  | i :: r => by unfold killD; rw [List.length_set, killD_len ds r]
theorem killD_at (ds : Slots) : ∀ (l : List Nat) (i : Nat) (d : D), (killD ds l)[i]? = some (some d) → ds[i]? = some (some d)
  | [], i, d, h => h
  | j :: r, i, d, h => by
    unfold killD at h
    by_cases hj : j = i
    · subst hj
      have hl : j < (killD ds r).length := by have := (List.getElem?_eq_some_iff.mp h).1; simpa using this
      rw [List.getElem?_set_self hl] at h; cases h
    · rw [List.getElem?_set_ne hj] at h; exact killD_at ds r i d h
@[simp] def killS (l : List Nat) (s : MS) : MS := fun ds ms => (s ds ms).bind fun f m => match f with
  | .nx ds => .ok (.nx (killD ds l)) m
  | f => .ok f m
/-- new objects are forgotten, where nothing speaks of them -/
def keepS (n : Nat) (ds : Slots) : Slots := ds.map fun o => match o with
  | some d => if D.cl n d = true then some d else none
  | none => none
def gcS (s : MS) : MS := fun ds ms => (s ds ms).bind fun f m => match f with
  | .nx ds => if ms.length ≤ m.length ∧ (m.take ms.length).all (Ob.cl ms.length) = true then .ok (.nx (keepS ms.length ds)) (m.take ms.length) else .ok (.nx ds) m
  | f => .ok f m
theorem keepS_at {n : Nat} {ds : Slots} {i : Nat} {d : D} (h : (keepS n ds)[i]? = some (some d)) : ds[i]? = some (some d) ∧ D.cl n d = true := by
  unfold keepS at h
  rw [List.getElem?_map] at h
  obtain ⟨o, e1, e2⟩ := Option.map_eq_some_iff.mp h
  cases o with
  | none => cases e2
  | some x =>
    simp only at e2
    split at e2
    · rename_i c; cases e2; exact ⟨e1, c⟩
    · cases e2
/-- what a statement comes to may be forgotten in part -/
theorem ws_weak {B : Bs} {fl : Nat} {ds : Slots} {ms : List Ob} {st : Stmt} {E : En} (h : WS X B fl ds ms st { E with nx := fun ds' m' => E.nx ds' m' ∨ ∃ n ds2, n ≤ m'.length ∧ fl ≤ n ∧ (m'.take n).all (Ob.cl n) = true ∧ ds2.length = ds'.length ∧ (∀ (i : Nat) (d : D), ds2[i]? = some (some d) → ds'[i]? = some (some d) ∧ D.cl n d = true) ∧ E.nx ds2 (m'.take n) }) : WS X B fl ds ms st E := .mk fun σ H θ hf S L =>
  (h σ H θ hf S L).imp (fun σ' H' z => by
    obtain ⟨ds', ms', θ', L', im, t, S', q | ⟨n, ds2, hn, hfl, c, hl, hs, q⟩⟩ := z
    · exact ⟨ds', ms', θ', L', im, t, S', q⟩
    refine ⟨ds2, ms'.take n, θ'.take n, ⟨hl.trans L'.len, fun i d e => ?_⟩, im, ?_, S'.cut hn c, q⟩
    · obtain ⟨e1, c1⟩ := hs i d e
      obtain ⟨v, e2, r⟩ := L'.at_ i d e1
      exact ⟨v, e2, Rep.cut d v c1 r⟩
    · rw [List.take_take]
      rw [show min fl n = fl by omega]; exact t) (fun _ _ z => z) (fun _ _ z => z) (fun _ _ z => z)
theorem ws_fl {B : Bs} {fl : Nat} {ds : Slots} {ms : List Ob} {st : Stmt} {E : En} (h : fl ≤ ms.length → WS X B fl ds ms st E) : WS X B fl ds ms st E := .mk fun σ H θ hf S L => (h (by rw [← S.len]; exact hf)) σ H θ hf S L
theorem ws_kill {B : Bs} {fl : Nat} {ds : Slots} {ms : List Ob} {st : Stmt} {E : En} (h : WS X B fl ds ms st { E with nx := fun ds' m' => ∃ ds2, ds2.length = ds'.length ∧ (∀ (i : Nat) (d : D), ds2[i]? = some (some d) → ds'[i]? = some (some d)) ∧ E.nx ds2 m' }) : WS X B fl ds ms st E := .mk fun σ H θ hf S L =>
  (h σ H θ hf S L).imp (fun σ' H' z => by
    obtain ⟨ds', ms', θ', L', im, t, S', ds2, hl, hs, q⟩ := z
    exact ⟨ds2, ms', θ', ⟨hl.trans L'.len, fun i d e => L'.at_ i d (hs i d e)⟩, im, t, S', q⟩) (fun _ _ z => z) (fun _ _ z => z) (fun _ _ z => z)
theorem st_kill (l : List Nat) {st : Stmt} {s : MS} (h1 : SS X st s) : SS X st (killS l s) := ⟨fun B fl ds ms E h =>
  ws_kill (h1.run B fl ds ms _ (by
    unfold wpS at h ⊢
    refine wp_imp (wp_bind.mp h) fun f m h => ?_
    cases f with
    | nx ds' => exact ⟨killD ds' l, killD_len _ _, killD_at _ _, h⟩
    | _ => exact h))⟩
theorem st_gc {st : Stmt} {s : MS} (h1 : SS X st s) : SS X st (gcS s) := ⟨fun B fl ds ms E h => by
  refine ws_fl fun hfl => ws_weak (h1.run B fl ds ms _ (by
    unfold wpS at h ⊢
    refine wp_imp (wp_bind.mp h) fun f m h => ?_
    cases f with
    | nx ds' =>
      simp only at h
      split at h
      · rename_i c
        exact .inr ⟨ms.length, keepS ms.length ds', c.1, hfl, c.2, by unfold keepS; rw [List.length_map], fun i d hd => keepS_at hd, h⟩
      · exact .inl h
    | _ => exact h))⟩

/-! ## what is walked -/
inductive Gd where
  | tt
  | at_ (k : Nat) (xs : List D)
  | both (a b : Gd)
@[simp] def gOk : Gd → List Ob → Prop
  | .tt, _ => True
  | .at_ k xs, m => m[k]? = some (.lst xs)
  | .both a b, m => gOk a m ∧ gOk b m
def decG : ∀ (g : Gd) (m : List Ob), Decidable (gOk g m)
  | .tt, _ => .isTrue trivial
  | .at_ k xs, m => match h : m[k]? with
    | some (.lst ys) => if e : ys = xs then .isTrue (by unfold gOk; rw [h, e]) else .isFalse fun z => e (by unfold gOk at z; rw [h] at z; cases z; rfl)
    | some (.dK _) => .isFalse fun z => by unfold gOk at z; rw [h] at z; cases z
    | some (.dT _) => .isFalse fun z => by unfold gOk at z; rw [h] at z; cases z
    | some (.ins _ _) => .isFalse fun z => by unfold gOk at z; rw [h] at z; cases z
    | none => .isFalse fun z => by unfold gOk at z; rw [h] at z; cases z
  | .both a b, m => match decG a m, decG b m with
    | .isTrue x, .isTrue y => .isTrue ⟨x, y⟩
    | .isFalse x, _ => .isFalse fun z => x z.1
    | _, .isFalse y => .isFalse fun z => y z.2
instance (g : Gd) (m : List Ob) : Decidable (gOk g m) := decG g m
abbrev MI := Slots → List Ob → Res (List D × Gd)
structure SI (X : Cx) (tg e : Expr) (m : MI) : Prop where
  run : ∀ B ds ms R, wp (m ds ms) (fun p m' => R p.1 (gOk p.2) m') (XW X B) → WI X B ds ms tg e R
  fs : ∀ x, foldedSetIterable e X.env x = pure x
@[simp] def srcO (ms : List Ob) (d : D) : Option (List D × Gd) := match d with
  | .str z => some (z.cps.toList.map fun c => .str ⟨#[c]⟩, .tt)
  | .tup xs => some (xs, .tt)
  | .rol xs => some (xs, .tt)
  | .obj k => match ms[k]? with
    | some (.lst xs) => some (xs, .at_ k xs)
    | _ => none
  | _ => none
@[simp] def srcR (d : D) (m : List Ob) : Res (List D × Gd) := match srcO m d with
  | some p => .ok p m
  | none => .bad
theorem srcO_D {ms : List Ob} {d : D} {p : List D × Gd} (h : srcO ms d = some p) : SrcD ms d p.1 (gOk p.2) := by
  cases d with
  | str z => cases h; exact .text z
  | tup xs => cases h; exact .tup xs
  | rol xs => cases h; exact .rol xs
  | obj k =>
    simp only [srcO] at h
    split at h
    · cases h; exact .list (by assumption)
    · cases h
  | _ => cases h
@[simp] def iVal (a : ME) (ds : Slots) (ms : List Ob) : Res (List D × Gd) := (a ds ms).bind srcR
theorem i_val {m : ME} (h1 : SE X e m) (hs : ∀ x, foldedSetIterable e X.env x = pure x := by intro _; rfl) : SI X tg e (iVal m) := ⟨fun B ds ms R h => by
  have h := wp_bind.mp h
  have key := h1.run B ds ms
  cases hr : m ds ms with
  | bad => rw [hr] at h; exact h.elim
  | ex x d m1 =>
    rw [hr] at h
    exact wi_tup (key _ (by rw [hr]; exact h))
  | ok d m1 =>
    rw [hr] at h
    have h : wp (srcR d m1) (fun p m' => R p.1 (gOk p.2) m') (XW X B) := h
    unfold srcR at h
    split at h
    · rename_i p hp
      cases d with
      | str z => cases hp; exact wi_str (key _ (by rw [hr]; exact ⟨z, rfl, h⟩))
      | tup xs => cases hp; exact wi_tup (key _ (by rw [hr]; exact ⟨xs, rfl, h⟩))
      | rol xs => cases hp; exact wi_rol (key _ (by rw [hr]; exact ⟨xs, rfl, h⟩))
      | obj k =>
        simp only [srcO] at hp
        split at hp
        · cases hp; exact wi_list (key _ (by rw [hr]; exact ⟨k, _, rfl, by assumption, h⟩))
        · cases hp
      | _ => cases hp
    · exact h.elim, hs⟩
@[simp] def rgE (lo : Int) (n : Nat) : List D := (List.range n).map fun i => .int (lo + (i : Nat))
@[simp] def range1K (d : D) (m : List Ob) : Res (List D × Gd) := match d with
  | .int n => if -1000000000 ≤ n ∧ n ≤ 1000000000 then .ok ((List.range n.toNat).map fun i => .int (i : Nat), .tt) m else .bad
  | _ => .bad
@[simp] def iRange1 (a : ME) (ds : Slots) (ms : List Ob) : Res (List D × Gd) := (a ds ms).bind range1K
theorem i_range1 {p : Pos} {m : ME} (hm : X.mg "range" = none) (hg : Gl X "range") (h1 : SE X a m) (hs : starEach [a] X.env = (false, eval a X.env) :: starEach [] X.env := by rfl)
    (hf : ∀ x, foldedSetIterable (.Call (.Name "range" p) [a] [] pos) X.env x = pure x := by intro _; rfl) : SI X tg (.Call (.Name "range" p) [a] [] pos) (iRange1 m) := ⟨fun B ds ms R h =>
  wi_range1 hm hg (h1.run B ds ms _ (wp_imp (wp_bind.mp h) fun d m h => by
    unfold range1K at h
    split at h
    · split at h
      · rename_i c; exact ⟨_, rfl, by omega, by omega, h⟩
      · exact h.elim
    · exact h.elim)) hs, hf⟩
@[simp] def range2K2 (d e : D) (m2 : List Ob) : Res (List D × Gd) := match d, e with
  | .int lo, .int hi => if -1000000000 ≤ lo ∧ lo ≤ 1000000000 ∧ -1000000000 ≤ hi ∧ hi ≤ 1000000000 then .ok ((List.range (hi - lo).toNat).map fun i => .int (lo + (i : Nat)), .tt) m2 else .bad
  | _, _ => .bad
@[simp] def range2K (b : ME) (ds : Slots) (d : D) (m : List Ob) : Res (List D × Gd) := (b ds m).bind (range2K2 d)
@[simp] def iRange2 (a b : ME) (ds : Slots) (ms : List Ob) : Res (List D × Gd) := (a ds ms).bind (range2K b ds)
theorem i_range2 {p : Pos} {ma mb : ME} (hm : X.mg "range" = none) (hg : Gl X "range") (h1 : SE X a ma) (h2 : SE X b mb) (hs : starEach [a, b] X.env = (false, eval a X.env) :: starEach [b] X.env := by rfl) (hs2 : starEach [b] X.env = (false, eval b X.env) :: starEach [] X.env := by rfl)
    (hf : ∀ x, foldedSetIterable (.Call (.Name "range" p) [a, b] [] pos) X.env x = pure x := by intro _; rfl) : SI X tg (.Call (.Name "range" p) [a, b] [] pos) (iRange2 ma mb) := ⟨fun B ds ms R h =>
  wi_range2 hm hg (h1.run B ds ms _ (wp_imp (wp_bind.mp h) fun d m h => h2.run B ds m _ (wp_imp (wp_bind.mp h) fun e m2 h => by
    unfold range2K2 at h
    split at h
    · split at h
      · rename_i c; exact ⟨_, _, rfl, rfl, by omega, h⟩
      · exact h.elim
    · exact h.elim))) hs hs2, hf⟩
@[simp] def zipK2 (d e : D) (m2 : List Ob) : Res (List D × Gd) := match srcO m2 d, srcO m2 e with
  | some p, some q => .ok (zipD p.1 q.1, .both p.2 q.2) m2
  | _, _ => .bad
@[simp] def zipK (b : ME) (ds : Slots) (d : D) (m : List Ob) : Res (List D × Gd) := (b ds m).bind (zipK2 d)
@[simp] def iZip (a b : ME) (ds : Slots) (ms : List Ob) : Res (List D × Gd) := (a ds ms).bind (zipK b ds)
theorem i_zip {p tpos : Pos} {elts : List Expr} {kk : Nat} {ma mb : ME} (hm : X.mg "zip" = none) (hg : Gl X "zip") (h1 : SE X a ma) (h2 : SE X b mb)
    (hs : starEach [a, b] X.env = (false, eval a X.env) :: starEach [b] X.env := by rfl) (hs2 : starEach [b] X.env = (false, eval b X.env) :: starEach [] X.env := by rfl) (hpl : (backTo pos (starEach [b] X.env)).any (·.1) = false := by rfl)
    (hf : ∀ x, foldedSetIterable (.Call (.Name "zip" p) [a, b] [] pos) X.env x = pure x := by intro _; rfl) : SI X (.Tuple elts kk tpos) (.Call (.Name "zip" p) [a, b] [] pos) (iZip ma mb) := ⟨fun B ds ms R h =>
  wi_zip hm hg (wa_cons (h1.run B ds ms _ (wp_imp (wp_bind.mp h) fun d m h => wa_cons (h2.run B ds m _ (wp_imp (wp_bind.mp h) fun e m2 h => wa_nil (by
    unfold zipK2 at h
    split at h
    · rename_i p q hp hq
      exact ⟨d, e, p.1, q.1, gOk p.2, gOk q.2, rfl, srcO_D hp, srcO_D hq, h⟩
    · exact h.elim))) hs2)) hs) hs hpl, hf⟩
@[simp] def enumK (d : D) (m : List Ob) : Res (List D × Gd) := match srcO m d with
  | some p => .ok (enumD p.1, p.2) m
  | none => .bad
@[simp] def iEnum (a : ME) (ds : Slots) (ms : List Ob) : Res (List D × Gd) := (a ds ms).bind enumK
theorem i_enum {p tpos : Pos} {elts : List Expr} {kk : Nat} {ma : ME} (hm : X.mg "enumerate" = none) (hg : Gl X "enumerate") (h1 : SE X a ma)
    (hs : starEach [a] X.env = (false, eval a X.env) :: starEach [] X.env := by rfl) (hpl : (backTo pos (starEach [] X.env)).any (·.1) = false := by rfl)
    (hf : ∀ x, foldedSetIterable (.Call (.Name "enumerate" p) [a] [] pos) X.env x = pure x := by intro _; rfl) : SI X (.Tuple elts kk tpos) (.Call (.Name "enumerate" p) [a] [] pos) (iEnum ma) := ⟨fun B ds ms R h =>
  wi_enum hm hg (h1.run B ds ms _ (wp_imp (wp_bind.mp h) fun d m h => by
    unfold enumK at h
    split at h
    · rename_i p hp
      exact ⟨p.1, gOk p.2, srcO_D hp, h⟩
    · exact h.elim)) hs hpl, hf⟩

/-! ## for -/
/-- what an iteration leaves: k the slots that are dead, n: new objects from n on are forgotten if they may (gc) -/
def turnEnd (k : List Nat) (gc : Bool) (n : Nat) (ds : Slots) (m : List Ob) : Slots × List Ob :=
  if gc = true ∧ n < m.length ∧ (m.take n).all (Ob.cl n) = true then (killD (keepS n ds) k, m.take n) else (killD ds k, m)
def forL (g : Gd) (tg : MG) (body : MS) (k : List Nat) (gc : Bool) (n : Nat) : List D → Slots → List Ob → Res Fl
  | [], ds, m => if gOk g m then .ok (.nx ds) m else .bad
  | d :: r, ds, m => if gOk g m then (tg d ds m).bind fun ds1 m1 => (body ds1 m1).bind fun f m2 => match f with
      | .nx ds2 => forL g tg body k gc n r (turnEnd k gc n ds2 m2).1 (turnEnd k gc n ds2 m2).2
      | .ct ds2 => forL g tg body k gc n r (turnEnd k gc n ds2 m2).1 (turnEnd k gc n ds2 m2).2
      | .bk ds2 => .ok (.nx ds2) m2
      | .rt d => .ok (.rt d) m2
    else .bad
@[simp] def forK (k : List Nat) (gc : Bool) (tg : MG) (body : MS) (ds : Slots) (p : List D × Gd) (m : List Ob) : Res Fl := forL p.2 tg body k gc m.length p.1 ds m
@[simp] def forS (k : List Nat) (gc : Bool) (it : MI) (tg : MG) (body : MS) (ds : Slots) (ms : List Ob) : Res Fl := (it ds ms).bind (forK k gc tg body ds)
theorem wss_weak {B : Bs} {fl : Nat} {ds : Slots} {ms : List Ob} {st : List Stmt} {N : Slots → List Ob → Prop} {E : En} (k : List Nat) (gc : Bool) (n : Nat) (hfl : fl ≤ n)
    (h : WSs X B fl ds ms st ⟨fun ds' m' => N (turnEnd k gc n ds' m').1 (turnEnd k gc n ds' m').2, E.rt, E.bk, fun ds' m' => N (turnEnd k gc n ds' m').1 (turnEnd k gc n ds' m').2⟩) : WSs X B fl ds ms st ⟨N, E.rt, E.bk, N⟩ := .mk fun σ H θ hf S L => by
  have go : ∀ σ' H', nxOf X.K B fl θ H (fun ds' m' => N (turnEnd k gc n ds' m').1 (turnEnd k gc n ds' m').2) σ' H' → nxOf X.K B fl θ H N σ' H' := fun σ' H' z => by
    obtain ⟨ds', ms', θ', L', im, t, S', q⟩ := z
    unfold turnEnd at q
    split at q
    · rename_i c
      refine ⟨_, ms'.take n, θ'.take n, ⟨by rw [killD_len]; unfold keepS; rw [List.length_map]; exact L'.len, fun i d e => ?_⟩, im, ?_, S'.cut (Nat.le_of_lt c.2.1) c.2.2, q⟩
      · obtain ⟨e1, c1⟩ := keepS_at (killD_at _ _ _ _ e)
        obtain ⟨v, e2, r⟩ := L'.at_ i d e1
        exact ⟨v, e2, Rep.cut d v c1 r⟩
      · rw [List.take_take]
        rw [show min fl n = fl by omega]; exact t
    · exact ⟨_, ms', θ', ⟨by rw [killD_len]; exact L'.len, fun i d e => L'.at_ i d (killD_at _ _ _ _ e)⟩, im, t, S', q⟩
  exact (h σ H θ hf S L).imp go (fun _ _ z => z) (fun _ _ z => z) go
theorem st_for (k : List Nat) (gc : Bool) {body : List Stmt} {it : MI} {g : MG} {s : MS} (hc : X.calm = true) (hp : PassesOwn (model X.prog X.w) X.A X.env X.xe) (h1 : SI X tg e it) (h2 : SG X tg g) (h3 : SSs X body s) : SS X (.For tg e body [] pos) (forS k gc it g s) := ⟨fun B fl ds ms E h =>
  ws_for hc hp (h1.run B ds ms _ (wp_imp (wp_bind.mp h) fun p m h => by
    refine ⟨fun i ds' m' => wpS (forL p.2 g s k gc m.length (p.1.drop i) ds' m') E (XW X B), h, fun i ds' m' hi => ?_, fun i d ds' m' hd hi => ?_, fun ds' m' hi => ?_⟩
    · dsimp only at hi
      cases hl : p.1.drop i with
      | nil =>
        rw [hl] at hi; unfold forL at hi
        split at hi
        · assumption
        · exact hi.elim
      | cons d r =>
        rw [hl] at hi; unfold forL at hi
        split at hi
        · assumption
        · exact hi.elim
    · dsimp only at hi ⊢
      have hlt := (List.getElem?_eq_some_iff.mp hd).1
      have e1 : p.1.drop i = d :: p.1.drop (i + 1) := by
        rw [List.drop_eq_getElem_cons hlt]
        rw [(List.getElem?_eq_some_iff.mp hd).2]
      rw [e1] at hi
      unfold forL at hi
      split at hi
      · unfold wpS at hi
        refine h2.run B d ds' m' _ (wp_imp (wp_bind.mp hi) fun ds1 m1 hi => ?_)
        refine wss_weak (E := ⟨fun _ _ => True, E.rt, E.nx, fun _ _ => True⟩) k gc m.length (Nat.le_refl _) (h3.run B m.length ds1 m1 _ ?_)
        unfold wpS
        refine wp_imp (wp_bind.mp hi) fun f m2 hi => ?_
        cases f <;> exact hi
      · exact hi.elim
    · dsimp only at hi
      rw [List.drop_length] at hi
      unfold forL at hi
      split at hi
      · exact hi
      · exact hi.elim)) h1.fs⟩
end
end
end VM

namespace VM
open PySem PySem.Spec PyProof.Rows L2 VL
open Classical
noncomputable section

/-! ## while -/
def whileN (k : List Nat) (gc : Bool) (n : Nat) (c : MT) (body : MS) : Nat → Slots → List Ob → Res Fl
  | 0, _, _ => .bad
  | t + 1, ds, m => (c ds m).bind fun b m => if b then (body ds m).bind fun f m2 => match f with
      | .nx ds2 => whileN k gc n c body t (turnEnd k gc n ds2 m2).1 (turnEnd k gc n ds2 m2).2
      | .ct ds2 => whileN k gc n c body t (turnEnd k gc n ds2 m2).1 (turnEnd k gc n ds2 m2).2
      | .bk ds2 => .ok (.nx ds2) m2
      | .rt d => .ok (.rt d) m2
    else .ok (.nx ds) m
theorem whileN_succ {k : List Nat} {gc : Bool} {n : Nat} {c : MT} {body : MS} : ∀ (t : Nat) (ds : Slots) (m : List Ob), whileN k gc n c body t ds m ≠ .bad → whileN k gc n c body (t + 1) ds m = whileN k gc n c body t ds m
  | 0, _, _, h => absurd rfl h
  | t + 1, ds, m, h => by
    rw [whileN] at h ⊢
    conv => rhs; rw [whileN]
    cases hc : c ds m with
    | bad => rfl
    | ex x d m1 => rfl
    | ok b m1 =>
      rw [hc] at h
      simp only [bind_ok] at h ⊢
      cases b with
      | false => rfl
      | true =>
        simp only [if_true] at h ⊢
        cases hb : body ds m1 with
        | bad => rfl
        | ex x d m1 => rfl
        | ok f m2 =>
          rw [hb] at h
          simp only [bind_ok] at h ⊢
          cases f with
          | nx ds2 => exact whileN_succ t _ _ h
          | ct ds2 => exact whileN_succ t _ _ h
          | bk ds2 => rfl
          | rt d => rfl
theorem whileN_le {k : List Nat} {gc : Bool} {n : Nat} {c : MT} {body : MS} {ds : Slots} {m : List Ob} {t : Nat} (h : whileN k gc n c body t ds m ≠ .bad) : ∀ j, whileN k gc n c body (t + j) ds m = whileN k gc n c body t ds m
  | 0 => rfl
  | j + 1 => by
    rw [← Nat.add_assoc, whileN_succ _ _ _ (by rw [whileN_le h j]; exact h), whileN_le h j]
def whileS (k : List Nat) (gc : Bool) (c : MT) (body : MS) : MS := fun ds ms =>
  if h : ∃ t, whileN k gc ms.length c body t ds ms ≠ .bad then whileN k gc ms.length c body (choose h) ds ms else .bad
theorem whileS_eq {k : List Nat} {gc : Bool} {c : MT} {body : MS} {ds : Slots} {ms : List Ob} (t : Nat) {r : Res Fl} (h : whileN k gc ms.length c body t ds ms = r) (hr : r ≠ .bad) : whileS k gc c body ds ms = r := by
  have hx : ∃ t, whileN k gc ms.length c body t ds ms ≠ .bad := ⟨t, by rw [h]; exact hr⟩
  unfold whileS
  rw [dif_pos hx]
  have h2 := choose_spec hx
  rcases Nat.le_total (choose hx) t with z | z
  · obtain ⟨j, e⟩ := Nat.le.dest z
    rw [← h, ← e, whileN_le h2 j]
  · obtain ⟨j, e⟩ := Nat.le.dest z
    rw [← e, whileN_le (by rw [h]; exact hr) j, h]
section
variable {X : Cx} {a b c tg e : Expr} {pos : Pos}
theorem st_while (k : List Nat) (gc : Bool) {body : List Stmt} {mc : MT} {s : MS} (hp : PassesOwn (model X.prog X.w) X.A X.env X.xe) (h1 : ST X c mc) (h2 : SSs X body s) : SS X (.While c body [] pos) (whileS k gc mc s) := ⟨fun B fl ds ms E h => by
  refine ws_fl fun hfl => ?_
  unfold whileS at h
  split at h
  · refine ws_while hp (fun t ds' m' => wpS (whileN k gc ms.length mc s t ds' m') E (XW X B)) _ h fun t ds' m' hi => ?_
    cases t with
    | zero => exact hi.elim
    | succ t =>
      unfold whileN wpS at hi
      refine h1.run B ds' m' _ (wp_imp (wp_bind.mp hi) fun b m2 hi => ⟨fun e => ?_, fun e => ?_⟩)
      · subst e
        refine wss_weak (E := ⟨fun _ _ => True, E.rt, E.nx, fun _ _ => True⟩) k gc ms.length hfl (h2.run B fl ds' m2 _ ?_)
        unfold wpS
        refine wp_imp (wp_bind.mp hi) fun f m2 hi => ?_
        cases f with
        | nx ds2 => exact ⟨t, Nat.lt_succ_self t, hi⟩
        | ct ds2 => exact ⟨t, Nat.lt_succ_self t, hi⟩
        | bk ds2 => exact hi
        | rt d => exact hi
      · subst e; exact hi
  · exact h.elim⟩

/-! ## comprehensions -/
@[simp] def nox {α : Type} (r : Res α) : Res α := match r with
  | .ex _ _ _ => .bad
  | r => r
theorem wp_nox {α : Type} {r : Res α} {Q : α → List Ob → Prop} {W W' : Xd → Slots → List Ob → Prop} (h : wp (nox r) Q W) : wp r Q W' := by
  cases r with
  | ok a m => exact h
  | _ => exact h.elim
def keepM (n : Nat) (d : D) (m : List Ob) : List Ob := if m.length ≤ n then m else if (m.take n).all (Ob.cl n) = true ∧ D.cl n d = true then m.take n else m
/-- a target within a comprehension -/
@[simp] def app1 (j : Nat) (d : D) (ds : Slots) : Option Slots := some (ds.set j (some d))
@[simp] def appP (i j : Nat) (d : D) (ds : Slots) : Option Slots := match d with
  | .tup [d, e] => some ((ds.set i (some d)).set j (some e))
  | .str ⟨⟨[a, b]⟩⟩ => some ((ds.set i (some (dS [a]))).set j (some (dS [b])))
  | _ => none
theorem tg_pair2 {scope : Scope} {vs : List Nat} (i j : Nat) {x y : Str} {p1 p2 p3 : Pos} {k : Nat} (hc : X.calm = true) (hN : X.N.Nodup) (hi : X.N[i]? = some x) (hj : X.N[j]? = some y) (hx : scope.names.lookup x = some .local) (hy : scope.names.lookup y = some .local) (hvi : i ∈ vs) (hvj : j ∈ vs) :
    TgLc X scope vs (.Tuple [.Name x p1, .Name y p2] k p3) (fun v σ H Q => L2.gTup X.K 2 (L2.gCons (gName i) (L2.gCons (gName j) L2.gNil)) v σ H Q ∨ gStr2 (L2.gCons (gName i) (L2.gCons (gName j) L2.gNil)) v σ H Q) (appP i j) where
  pg := fun s H C cl fp => ⟨fun pins s' σ H' v u Q I r h => h.elim (((tg_pair i j hc hN hi hj hx hy hvi hvj).pg s H C cl fp).run pins s' σ H' v u Q I r) (((tg_pairS i j hc hN hi hj hx hy hvi hvj).pg s H C cl fp).run pins s' σ H' v u Q I r)⟩
  go := fun σ H θ v d ds ds' e r L => by
    unfold appP at e
    split at e
    · obtain ⟨σ2, h1, h2, h3⟩ := (tg_pair (X := X) (scope := scope) (p1 := p1) (p2 := p2) (p3 := p3) (k := k) i j hc hN hi hj hx hy hvi hvj).go σ H θ v _ ds ds' (by unfold app2; exact e) r L
      exact ⟨σ2, fun Q q => .inl (h1 Q q), h2, h3⟩
    · obtain ⟨σ2, h1, h2, h3⟩ := (tg_pairS (X := X) (scope := scope) (p1 := p1) (p2 := p2) (p3 := p3) (k := k) i j hc hN hi hj hx hy hvi hvj).go σ H θ v _ ds ds' (by unfold appS2; exact e) r L
      exact ⟨σ2, fun Q q => .inr (h1 Q q), h2, h3⟩
    · cases e
def lcL (g : Gd) (app : D → Slots → Option Slots) (ds0 : Slots) (tst : MT) (elt : ME) : List D → List Ob → Res (List D)
  | [], m => if gOk g m then .ok [] m else .bad
  | d :: r, m => if gOk g m then match app d ds0 with
      | some ds' => (nox (tst ds' m)).bind fun b m3 => if b then (nox (elt ds' m3)).bind fun y m4 => (lcL g app ds0 tst elt r (keepM m.length y m4)).bind fun ys m5 => .ok (y :: ys) m5 else lcL g app ds0 tst elt r m3
      | none => .bad
    else .bad
@[simp] def yesT (_ : Slots) (ms : List Ob) : Res Bool := .ok true ms
/-- the list's items -/
@[simp] def lcIK (vs : List Nat) (app : D → Slots → Option Slots) (tst : MT) (elt : ME) (ds : Slots) (p : List D × Gd) (m : List Ob) : Res (List D) := if p.1.length ≤ sizeLine then lcL p.2 app (wipeD ds vs) tst elt p.1 m else .bad
@[simp] def lcI (vs : List Nat) (app : D → Slots → Option Slots) (it : MI) (tst : MT) (elt : ME) (ds : Slots) (ms : List Ob) : Res (List D) := (it ds ms).bind (lcIK vs app tst elt ds)
@[simp] def lcEK (ys : List D) (m : List Ob) : Res D := .ok (.obj m.length) (m ++ [.lst ys])
@[simp] def lcE (vs : List Nat) (app : D → Slots → Option Slots) (it : MI) (tst : MT) (elt : ME) (ds : Slots) (ms : List Ob) : Res D := (lcI vs app it tst elt ds ms).bind lcEK
@[simp] def lcRK (n : Nat) (ys : List D) (m : List Ob) : Res D := if imAll ys = true ∧ n ≤ m.length then .ok (.rol ys) m else .bad
@[simp] def lcR (vs : List Nat) (app : D → Slots → Option Slots) (it : MI) (tst : MT) (elt : ME) (ds : Slots) (ms : List Ob) : Res D := (lcI vs app it tst elt ds ms).bind (lcRK ms.length)
structure STs (X : Cx) (ifs : List Expr) (m : MT) : Prop where
  run : ∀ B ds ms Q, wp (m ds ms) Q (XW X B) → WTs X B ds ms ifs Q
theorem sts_nil : STs X [] yesT := ⟨fun B ds ms Q h => h⟩
theorem sts_one {m : MT} (h1 : ST X c m) : STs X [c] m := ⟨fun B ds ms Q h => h1.run B ds ms Q h⟩
theorem lc_word {scope : Scope} {vs : List Nat} {app : D → Slots → Option Slots} {ifs : List Expr} {elt : Expr} {tst : MT} {me : ME} {p : List D × Gd} {ds : Slots} {m : List Ob} {Q : D → List Ob → Prop} {W : Xd → Slots → List Ob → Prop}
    (h2 : ∀ (s : Shared) (H : Hp) (C : Addr) (cl : List (Str × Addr)) (fp : List Addr), STs (X.blk s H scope (compEnvC scope cl C X.env) fp) ifs tst)
    (h3 : ∀ (s : Shared) (H : Hp) (C : Addr) (cl : List (Str × Addr)) (fp : List Addr), SE (X.blk s H scope (compEnvC scope cl C X.env) fp) elt me)
    (hz : p.1.length ≤ sizeLine) (h : wp (lcL p.2 app (wipeD ds vs) tst me p.1 m) (fun ys m => m.all (Ob.cl m.length) = true → Q (.obj m.length) (m ++ [.lst ys])) W) : LcWord X ds scope vs app ifs elt p.1 (gOk p.2) m Q := by
  refine ⟨fun i acc m' => acc.length ≤ i ∧ wp (lcL p.2 app (wipeD ds vs) tst me (p.1.drop i) m') (fun ys m => m.all (Ob.cl m.length) = true → Q (.obj m.length) (m ++ [.lst (acc ++ ys)])) W, ?_, fun i acc m' hi => ?_, fun i d acc m' hd hi => ?_, fun acc m' hi hcl => ?_⟩
  · exact ⟨Nat.le_refl _, h⟩
  · have hi := hi.2
    cases hl : p.1.drop i with
    | nil =>
      rw [hl] at hi; unfold lcL at hi
      split at hi
      · assumption
      · exact hi.elim
    | cons d r =>
      rw [hl] at hi; unfold lcL at hi
      split at hi
      · assumption
      · exact hi.elim
  · obtain ⟨hl, hi⟩ := hi
    have hlt := (List.getElem?_eq_some_iff.mp hd).1
    have e1 : p.1.drop i = d :: p.1.drop (i + 1) := by
      rw [List.drop_eq_getElem_cons hlt]
      rw [(List.getElem?_eq_some_iff.mp hd).2]
    rw [e1] at hi
    unfold lcL at hi
    split at hi
    · split at hi
      · rename_i ds' ha
        refine ⟨by omega, ds', ha, fun B s H C cl fp => (h2 s H C cl fp).run B ds' m' _ ?_⟩
        refine wp_nox (W := W) (wp_imp (wp_bind.mp hi) fun b m3 hi => ⟨fun e => ?_, fun e => ?_⟩)
        · subst e
          intro s H C cl fp
          refine (h3 s H C cl fp).run B ds' m3 _ (wp_nox (W := W) (wp_imp (wp_bind.mp hi) fun y m4 hi => ?_))
          have hi := wp_bind.mp hi
          have fin : ∀ m5, keepM m'.length y m4 = m5 → acc.length + 1 ≤ i + 1 ∧ wp (lcL p.2 app (wipeD ds vs) tst me (p.1.drop (i + 1)) m5) (fun ys m => m.all (Ob.cl m.length) = true → Q (.obj m.length) (m ++ [.lst (acc ++ [y] ++ ys)])) W := fun m5 e => by
            rw [e] at hi
            exact ⟨by omega, wp_imp hi fun ys m h => by rw [List.append_assoc]; exact h⟩
          unfold keepM at fin
          split at fin
          · exact .inl (show (acc ++ [y]).length ≤ i + 1 ∧ _ from ⟨by rw [List.length_append]; exact (fin m4 rfl).1, (fin m4 rfl).2⟩)
          · split at fin
            · rename_i c1 c2
              exact .inr ⟨by omega, c2.1, c2.2, show (acc ++ [y]).length ≤ i + 1 ∧ _ from ⟨by rw [List.length_append]; exact (fin _ rfl).1, (fin _ rfl).2⟩⟩
            · exact .inl (show (acc ++ [y]).length ≤ i + 1 ∧ _ from ⟨by rw [List.length_append]; exact (fin m4 rfl).1, (fin m4 rfl).2⟩)
        · subst e
          exact ⟨by omega, hi⟩
      · exact hi.elim
    · exact hi.elim
  · have hi := hi.2
    rw [List.drop_length] at hi
    unfold lcL at hi
    split at hi
    · have : Q (.obj m'.length) (m' ++ [.lst (acc ++ [])]) := hi hcl
      rw [List.append_nil] at this; exact this
    · exact hi.elim
variable {scope : Scope} {own : List (Str × Nat)} {g : TG} {app : D → Slots → Option Slots} {ifs : List Expr} {elt : Expr} {it : MI} {tst : MT} {me : ME}
theorem s_lc (hc : X.calm = true) (hN : X.N.Nodup) (ok : BlkOk X.N X.env.scope scope own) (T : TgLc X scope (own.map (·.2)) tg g app) (h1 : SI X tg e it)
    (h2 : ∀ (s : Shared) (H : Hp) (C : Addr) (cl : List (Str × Addr)) (fp : List Addr), STs (X.blk s H scope (compEnvC scope cl C X.env) fp) ifs tst)
    (h3 : ∀ (s : Shared) (H : Hp) (C : Addr) (cl : List (Str × Addr)) (fp : List Addr), SE (X.blk s H scope (compEnvC scope cl C X.env) fp) elt me) : SE X (.ListComp elt [⟨tg, e, ifs, 0⟩] scope pos) (lcE (own.map (·.2)) app it tst me) := ⟨fun B ds ms Q h =>
  we_lc hc hN ok T (h1.run B ds ms _ (wp_imp (wp_bind.mp (wp_bind.mp h)) fun p m h => by
    unfold lcIK at h
    split at h
    · exact lc_word h2 h3 (by assumption) (wp_imp h fun _ _ h _ => h)
    · exact h.elim)) h1.fs⟩
/-- a comprehension's own list, and the store ahead of it speaks of nothing else -/
theorem s_lcR (hc : X.calm = true) (hN : X.N.Nodup) (ok : BlkOk X.N X.env.scope scope own) (T : TgLc X scope (own.map (·.2)) tg g app) (h1 : SI X tg e it)
    (h2 : ∀ (s : Shared) (H : Hp) (C : Addr) (cl : List (Str × Addr)) (fp : List Addr), STs (X.blk s H scope (compEnvC scope cl C X.env) fp) ifs tst)
    (h3 : ∀ (s : Shared) (H : Hp) (C : Addr) (cl : List (Str × Addr)) (fp : List Addr), SE (X.blk s H scope (compEnvC scope cl C X.env) fp) elt me) : SE X (.ListComp elt [⟨tg, e, ifs, 0⟩] scope pos) (lcR (own.map (·.2)) app it tst me) := ⟨fun B ds ms Q h => by
  refine we_frzL (we_lc hc hN ok T (h1.run B ds ms _ (wp_imp (wp_bind.mp (wp_bind.mp h)) fun p m h => ?_)) h1.fs)
  unfold lcIK at h
  split at h
  · refine lc_word h2 h3 (by assumption) (wp_imp h fun ys m h hcl => ?_)
    unfold lcRK at h
    split at h
    · rename_i c
      exact ⟨m, ys, rfl, rfl, c.2, hcl, c.1, h⟩
    · exact h.elim
  · exact h.elim⟩
theorem st_setLc (i : Nat) {y : Str} {py spos : Pos} (hc : X.calm = true) (hN : X.N.Nodup) (hy : X.N[i]? = some y) (hyl : X.env.scope.names.lookup y = some .local) (ok : BlkOk X.N X.env.scope scope own) (T : TgLc X scope (own.map (·.2)) tg g app) (h1 : SI X tg e it)
    (h2 : ∀ (s : Shared) (H : Hp) (C : Addr) (cl : List (Str × Addr)) (fp : List Addr), STs (X.blk s H scope (compEnvC scope cl C X.env) fp) ifs tst)
    (h3 : ∀ (s : Shared) (H : Hp) (C : Addr) (cl : List (Str × Addr)) (fp : List Addr), SE (X.blk s H scope (compEnvC scope cl C X.env) fp) elt me)
    (hsw : swapsWith (.ListComp elt [⟨tg, e, ifs, 0⟩] scope pos) (some (.Name y py)) spos.line X.env = pure true) : SS X (.Assign [.Name y py] (.ListComp elt [⟨tg, e, ifs, 0⟩] scope pos) spos) (setS i (lcE (own.map (·.2)) app it tst me)) := ⟨fun B fl ds ms E h =>
  ws_setLc i hc hN hy hyl ok T (h1.run B ds ms _ (wp_imp (wp_bind.mp (wp_bind.mp (wp_bind.mp h))) fun p m h => by
    unfold lcIK at h
    split at h
    · exact lc_word (Q := fun d m' => E.nx (ds.set i (some d)) m') h2 h3 (by assumption) (wp_imp h fun _ _ h _ => h)
    · exact h.elim)) hsw h1.fs⟩
end
end
end VM


namespace VM
open PySem PySem.Spec PyProof.Rows L2 VL
open Classical
noncomputable section

/-! ## dict comprehensions -/
@[simp] def keyOf : D → Option Key
  | .int i => some (.inl i)
  | .str x => some (.inr x)
  | _ => none
theorem keyOf_kD {d : D} {k : Key} (h : keyOf d = some k) : d = kD k := by
  cases d with
  | int i => cases h; rfl
  | str x => cases h; rfl
  | _ => cases h
def dcL (g : Gd) (app : D → Slots → Option Slots) (ds0 : Slots) (ek ev : ME) : List D → List (Key × D) → List Ob → Res (List (Key × D))
  | [], acc, m => if gOk g m then .ok acc m else .bad
  | d :: r, acc, m => if gOk g m ∧ acc.length < sizeLine then match app d ds0 with
      | some ds' => (nox (ek ds' m)).bind fun kd m3 => match keyOf kd with
          | some k => (nox (ev ds' m3)).bind fun y m4 => dcL g app ds0 ek ev r (putD acc k y) m4
          | none => .bad
      | none => .bad
    else .bad
@[simp] def dcK2 (kvs : List (Key × D)) (m : List Ob) : Res D := .ok (.obj m.length) (m ++ [.dK kvs])
@[simp] def dcK (vs : List Nat) (app : D → Slots → Option Slots) (ek ev : ME) (ds : Slots) (p : List D × Gd) (m : List Ob) : Res D := (dcL p.2 app (wipeD ds vs) ek ev p.1 [] m).bind dcK2
@[simp] def dcE (vs : List Nat) (app : D → Slots → Option Slots) (it : MI) (ek ev : ME) (ds : Slots) (ms : List Ob) : Res D := (it ds ms).bind (dcK vs app ek ev ds)
section
variable {X : Cx} {a b c tg e : Expr} {pos : Pos} {scope : Scope} {own : List (Str × Nat)} {g : TG} {app : D → Slots → Option Slots} {it : MI}
theorem s_dc {kx vx : Expr} {ek ev : ME} (hc : X.calm = true) (hN : X.N.Nodup) (ok : BlkOk X.N X.env.scope scope own) (T : TgLc X scope (own.map (·.2)) tg g app) (h1 : SI X tg e it)
    (h2 : ∀ (s : Shared) (H : Hp) (C : Addr) (cl : List (Str × Addr)) (fp : List Addr), SE (X.blk s H scope (compEnvC scope cl C X.env) fp) kx ek)
    (h3 : ∀ (s : Shared) (H : Hp) (C : Addr) (cl : List (Str × Addr)) (fp : List Addr), SE (X.blk s H scope (compEnvC scope cl C X.env) fp) vx ev) : SE X (.DictComp kx vx [⟨tg, e, [], 0⟩] scope pos) (dcE (own.map (·.2)) app it ek ev) := ⟨fun B ds ms Q h =>
  we_dc hc hN ok T (h1.run B ds ms _ (wp_imp (wp_bind.mp h) fun p m h => by
    have h := wp_bind.mp h
    refine ⟨fun i acc m' => wp (dcL p.2 app (wipeD ds (own.map (·.2))) ek ev (p.1.drop i) acc m') (fun kvs m => Q (.obj m.length) (m ++ [.dK kvs])) (XW X B), ?_, fun i acc m' hi => ?_, fun i d acc m' hd hi => ?_, fun acc m' hi => ?_⟩
    · exact h
    · dsimp only at hi
      cases hl : p.1.drop i with
      | nil =>
        rw [hl] at hi; unfold dcL at hi
        split at hi
        · assumption
        · exact hi.elim
      | cons d r =>
        rw [hl] at hi; unfold dcL at hi
        split at hi
        · rename_i c; exact c.1
        · exact hi.elim
    · dsimp only at hi ⊢
      have hlt := (List.getElem?_eq_some_iff.mp hd).1
      have e1 : p.1.drop i = d :: p.1.drop (i + 1) := by
        rw [List.drop_eq_getElem_cons hlt]
        rw [(List.getElem?_eq_some_iff.mp hd).2]
      rw [e1] at hi
      unfold dcL at hi
      split at hi
      · rename_i c
        split at hi
        · rename_i ds' ha
          refine ⟨c.2, ds', ha, fun B' s H C cl fp => (h2 s H C cl fp).run B' ds' m' _ ?_⟩
          refine wp_nox (W := XW X B) (wp_imp (wp_bind.mp hi) fun kd m3 hi => ?_)
          split at hi
          · rename_i k hk
            exact ⟨k, keyOf_kD hk, fun s H C cl fp => (h3 s H C cl fp).run B' ds' m3 _ (wp_nox (W := XW X B) (wp_imp (wp_bind.mp hi) fun y m4 hi => hi))⟩
          · exact hi.elim
        · exact hi.elim
      · exact hi.elim
    · dsimp only at hi
      rw [List.drop_length] at hi
      unfold dcL at hi
      split at hi
      · exact hi
      · exact hi.elim)) h1.fs⟩
end

/-! ## values in, a value out -/
def runP (k n : Nat) (m : MS) : List D → Option D := fun dl => if dl.length = k then match m (startD n dl) [] with
    | .ok (.rt d) _ => if d.im = true then some d else none
    | .ok (.nx _) _ => some .non
    | _ => none
  else none
theorem runP_len {k n : Nat} {m : MS} {dl : List D} {d : D} (h : runP k n m dl = some d) : dl.length = k := by
  unfold runP at h
  split at h
  · assumption
  · cases h
theorem runP_im {k n : Nat} {m : MS} {dl : List D} {d : D} (h : runP k n m dl = some d) : d.im = true := by
  unfold runP at h
  split at h
  · split at h
    · split at h
      · cases h; assumption
      · cases h
    · cases h; rfl
    · cases h
  · cases h
abbrev pV (F : List D → Option D) : VSp := pureV fun dl v => F dl = some v
/-- a new list of values -/
def runL (k n : Nat) (m : MS) : List D → Option (List D) := fun dl => if dl.length = k then match m (startD n dl) [] with
    | .ok (.rt (.obj j)) m => match m[j]? with
      | some (.lst xs) => if imAll xs = true then some xs else none
      | _ => none
    | _ => none
  else none
theorem runL_len {k n : Nat} {m : MS} {dl : List D} {d : List D} (h : runL k n m dl = some d) : dl.length = k := by
  unfold runL at h
  split at h
  · assumption
  · cases h
theorem runL_im {k n : Nat} {m : MS} {dl : List D} {d : List D} (h : runL k n m dl = some d) : imAll d = true := by
  unfold runL at h
  split at h
  · split at h
    · split at h
      · split at h
        · cases h; assumption
        · cases h
      · cases h
    · cases h
  · cases h
abbrev lV (F : List D → Option (List D)) : VSp := listV fun dl v => F dl = some v
/-- with the deck -/
abbrev Dk := List Int × Int
def dkS (k : Dk) : List Ob := dk k.1 k.2
def intsOf : List D → Option (List Int)
  | [] => some []
  | .int i :: ds => (intsOf ds).map fun r => i :: r
  | _ :: _ => none
@[simp] theorem intsOf_map (l : List Int) : intsOf (l.map D.int) = some l := by
  induction l with
  | nil => rfl
  | cons a l ih => rw [List.map_cons]; unfold intsOf; rw [ih]; rfl
theorem intsOf_eq : ∀ {ds : List D} {l : List Int}, intsOf ds = some l → ds = l.map D.int
  | [], _, h => by cases h; rfl
  | d :: ds, l, h => by
    cases d with
    | int x =>
      unfold intsOf at h
      obtain ⟨r, h1, h2⟩ := Option.map_eq_some_iff.mp h
      cases h2
      rw [intsOf_eq h1]; rfl
    | _ => cases h
def dkOf (ms : List Ob) : Option Dk := match ms with
  | .lst cs :: .lst [.obj 0, .int c] :: _ => (intsOf cs).map fun l => (l, c)
  | _ => none
@[simp] theorem dkOf_dk (k : Dk) (rest : List Ob) : dkOf (dkS k ++ rest) = some k := by
  show (intsOf (k.1.map D.int)).map _ = _
  rw [intsOf_map]; rfl
theorem dkOf_eq {ms : List Ob} {k : Dk} (h : dkOf ms = some k) : ms = dkS k ++ ms.drop 2 := by
  unfold dkOf at h
  split at h
  · obtain ⟨l, h1, h2⟩ := Option.map_eq_some_iff.mp h
    cases h2
    rw [intsOf_eq h1]; rfl
  · cases h
def runK (k n : Nat) (m : MS) : List D → Dk → Option (D × Dk) := fun dl q => if dl.length + 1 = k then match m (startD n (.obj 1 :: dl)) (dkS q) with
    | .ok (.rt d) ms => if d.im = true then (dkOf ms).map fun q' => (d, q') else none
    | .ok (.nx _) ms => (dkOf ms).map fun q' => (.non, q')
    | _ => none
  else none
def kV (F : List D → Dk → Option (D × Dk)) : VSp := fun dl ms R => ∃ dl' q d q', dl = .obj 1 :: dl' ∧ ms = dkS q ∧ F dl' q = some (d, q') ∧ d.im = true ∧ R d (dkS q')
/-- with the whole store -/
def runA (k n : Nat) (m : MS) : List D → List Ob → Res D := fun dl ms => if dl.length = k then (m (startD n dl) ms).bind fun f m => match f with
    | .rt d => .ok d m
    | .nx _ => .ok .non m
    | _ => .bad
  else .bad
def aV (G : List D → List Ob → Res D) : VSp := fun dl ms R => wp (G dl ms) R fun _ _ _ => False
section
variable {P : Program} {w : World} {K : PySem.W.Frag} {mg : Str → Option Value} {base : Heap} {x qual : Str} {st : Stmt} {f : Addr} {fd : FuncData} {N ps : List Str} {k : Nat} {m : MS}
theorem fnP (F : Fun K x qual st f fd) (S : FnScope N ps (defScope st))
    (body : ∀ (cdv : Value) (A : Around) (outer : List Env) (s : Shared) (H : Hp), Room k (A.deeper (envOfC qual (defScope st) s.heap.objs.size f cdv)) → (A.deeper (envOfC qual (defScope st) s.heap.objs.size f cdv)).guards = some [] →
      SSs (cxOf CX0 P w K mg base N qual (defScope st) f cdv A outer s H E0).nox (defBody st) m) : FnG P w K mg base (k + 1) f fd ps (spOf K (pV (runP ps.length N.length m))) := by
  refine vfnP F S (fun dl v h => runP_len h) (fun dl v h => runP_im h) (fun cdv A outer s H hr hgd B dl v h => (body cdv A outer s H hr hgd).run B 0 _ [] _ ?_)
  have hl := runP_len h
  unfold runP at h
  rw [if_pos hl] at h
  unfold wpS
  generalize m (startD N.length dl) [] = r at h ⊢
  cases r with
  | ok f ms => cases f with
    | rt d =>
      simp only at h
      split at h
      · cases h; rfl
      · cases h
    | nx ds => cases h; rfl
    | _ => cases h
  | _ => cases h
theorem fnL (F : Fun K x qual st f fd) (S : FnScope N ps (defScope st))
    (body : ∀ (cdv : Value) (A : Around) (outer : List Env) (s : Shared) (H : Hp), Room k (A.deeper (envOfC qual (defScope st) s.heap.objs.size f cdv)) → (A.deeper (envOfC qual (defScope st) s.heap.objs.size f cdv)).guards = some [] →
      SSs (cxOf CX0 P w K mg base N qual (defScope st) f cdv A outer s H E0).nox (defBody st) m) : FnG P w K mg base (k + 1) f fd ps (spOf K (lV (runL ps.length N.length m))) := by
  refine vfnL F S (fun dl v h => runL_len h) (fun dl v h => runL_im h) (fun cdv A outer s H hr hgd B dl v h => (body cdv A outer s H hr hgd).run B 0 _ [] _ ?_)
  have hl := runL_len h
  unfold runL at h
  rw [if_pos hl] at h
  unfold wpS
  generalize m (startD N.length dl) [] = r at h ⊢
  split at h
  · rename_i j ms
    split at h
    · rename_i xs hx
      split at h
      · cases h; exact ⟨j, rfl, hx⟩
      · cases h
    · cases h
  · cases h
theorem fnK (F : Fun K x qual st f fd) (S : FnScope N ps (defScope st))
    (body : ∀ (cdv : Value) (A : Around) (outer : List Env) (s : Shared) (H : Hp), Room k (A.deeper (envOfC qual (defScope st) s.heap.objs.size f cdv)) → (A.deeper (envOfC qual (defScope st) s.heap.objs.size f cdv)).guards = some [] →
      SSs (cxOf CX0 P w K mg base N qual (defScope st) f cdv A outer s H E0).nox (defBody st) m) : FnG P w K mg base (k + 1) f fd ps (spOf K (kV (runK ps.length N.length m))) := by
  have lenK : ∀ {dl' q d q'}, runK ps.length N.length m dl' q = some (d, q') → dl'.length + 1 = ps.length := fun h => by
    unfold runK at h
    split at h
    · assumption
    · cases h
  refine vfn F S (fun dl ms R h => ?_) (fun cdv A outer s H hr hgd B dl ms R h => ?_)
  · obtain ⟨dl', q, d, q', rfl, _, h, _⟩ := h
    rw [List.length_cons]; exact lenK h
  · obtain ⟨dl', q, d, q', rfl, rfl, h, hi, hR⟩ := h
    refine wss_ret (fun d1 m1 => d1 = d ∧ ∃ rest, m1 = dkS q' ++ rest) (fun d1 m1 h => ?_) ?_
    · obtain ⟨rfl, rest, rfl⟩ := h
      exact ⟨[0, 1], dkS q', d1, fr_dkR hi, fun j (hj : j < 2) => by
        match j, hj with
        | 0, _ => rfl
        | 1, _ => rfl, hR⟩
    · have hl := lenK h
      unfold runK at h
      rw [if_pos hl] at h
      have go : ∀ E' : En, (∀ m1 : List Ob, (∃ rest, m1 = dkS q' ++ rest) → E'.rt d m1) → (∀ ds (m1 : List Ob), d = .non → (∃ rest, m1 = dkS q' ++ rest) → E'.nx ds m1) → wpS (m (startD N.length (.obj 1 :: dl')) (dkS q)) E' (XW (cxOf CX0 P w K mg base N qual (defScope st) f cdv A outer s H E0).nox B) := fun E' h1 h2 => by
        unfold wpS
        generalize m (startD N.length (.obj 1 :: dl')) (dkS q) = r at h ⊢
        cases r with
        | ok f ms => cases f with
          | rt d1 =>
            simp only at h
            split at h
            · obtain ⟨q2, e1, e2⟩ := Option.map_eq_some_iff.mp h
              cases e2
              exact h1 ms ⟨_, dkOf_eq e1⟩
            · cases h
          | nx ds =>
            simp only at h
            obtain ⟨q2, e1, e2⟩ := Option.map_eq_some_iff.mp h
            cases e2
            exact h2 ds ms rfl ⟨_, dkOf_eq e1⟩
          | _ => cases h
        | _ => cases h
      refine .mk fun σ H1 θ hf S L => ?_
      have base' := (body cdv A outer s H hr hgd).run B 2 (startD N.length (.obj 1 :: dl')) (dkS q) ⟨fun _ m1 => d = .non ∧ ∃ rest, m1 = dkS q' ++ rest, fun d1 m1 => d1 = d ∧ ∃ rest, m1 = dkS q' ++ rest, fun _ _ => False, fun _ _ => False⟩ (go _ (fun m1 h => ⟨rfl, h⟩) fun ds m1 e h => ⟨e, h⟩)
      refine (base' σ H1 θ hf S L).imp (fun σ' H' z => ?_) (fun _ _ z => z) (fun _ _ z => z) (fun _ _ z => z)
      obtain ⟨ds', ms', θ', L', im, t, S', hd, rest, rfl⟩ := z
      subst hd
      obtain ⟨r2, S2⟩ := (fr_dkR (cells := q'.1) (c := q'.2) (rest := rest) (d := .non) rfl).pick S' mk_non
      refine ⟨ds'.map fun _ => none, dkS q', sub θ' [0, 1], ⟨by rw [List.length_map]; exact L'.len, fun i d e => by rw [List.getElem?_map] at e; obtain ⟨_, _, q⟩ := Option.map_eq_some_iff.mp e; cases q⟩, im, ?_, S2, hR⟩
      show (sub θ' [0, 1]).take 2 = θ.take 2
      rw [← (show θ'.take 2 = θ.take 2 from t)]
      have hl' : (2 : Nat) ≤ θ'.length := by rw [S'.len]; show 2 ≤ (dk _ _ ++ rest).length; simp [dk]
      show (sub θ' [0, 1]).take 2 = θ'.take 2
      match θ', hl' with
      | a :: b :: r, _ => rfl
theorem fnA (F : Fun K x qual st f fd) (S : FnScope N ps (defScope st))
    (body : ∀ (cdv : Value) (A : Around) (outer : List Env) (s : Shared) (H : Hp), Room k (A.deeper (envOfC qual (defScope st) s.heap.objs.size f cdv)) → (A.deeper (envOfC qual (defScope st) s.heap.objs.size f cdv)).guards = some [] →
      SSs (cxOf CX0 P w K mg base N qual (defScope st) f cdv A outer s H E0).nox (defBody st) m) : FnG P w K mg base (k + 1) f fd ps (spOf K (aV (runA ps.length N.length m))) := by
  refine vfn F S (fun dl ms R h => ?_) (fun cdv A outer s H hr hgd B dl ms R h => (body cdv A outer s H hr hgd).run B ms.length _ ms _ ?_)
  · unfold aV runA at h
    split at h
    · assumption
    · exact h.elim
  · unfold aV runA at h
    split at h
    · unfold wpS
      have h := wp_bind.mp h
      cases hr : m (startD N.length dl) ms with
      | ok f ms1 =>
        rw [hr] at h
        cases f with
        | rt d => exact h
        | nx ds => exact h
        | _ => exact h.elim
      | ex x d m1 => rw [hr] at h; exact h.elim
      | bad => rw [hr] at h; exact h.elim
    · exact h.elim
end
section
variable {X : Cx} {pos : Pos} {k : Nat} {x : Str} {ps : List Str} {xp : Pos} {e : Expr} {es : List Expr} {as : MA}
@[simp] def callPK (F : List D → Option D) (dl : List D) (m : List Ob) : Res D := if imAll dl = true then match F dl with
    | some d => .ok d m
    | none => .bad
  else .bad
@[simp] def callP (F : List D → Option D) (as : MA) (ds : Slots) (ms : List Ob) : Res D := (as ds ms).bind (callPK F)
theorem s_callP {F : List D → Option D} (hF : ∀ dl d, F dl = some d → d.im = true) (G : Dc X.prog X.w X.K X.mg X.base k x ps (pV F)) (hr : Room k X.A) (hgd : X.A.guards = some []) (hg : Gl X x) (ha : SA X (e :: es) as)
    (hdb : (x == ("__debug__" : Str)) = false := by decide) (he : starEach (e :: es) X.env = (false, eval e X.env) :: starEach es X.env := by rfl) (hpl : (backTo pos (starEach es X.env)).any (·.1) = false := by rfl) : SE X (.Call (.Name x xp) (e :: es) [] pos) (callP F as) := ⟨fun B ds ms Q h =>
  we_callP G hr hgd hg (ha.run B ds ms _ (wp_imp (wp_bind.mp h) fun dl m h => by
    unfold callPK at h
    split at h
    · split at h
      · exact ⟨by assumption, _, by assumption, hF _ _ (by assumption), h⟩
      · exact h.elim
    · exact h.elim)) hdb he hpl⟩
@[simp] def callLK (F : List D → Option (List D)) (dl : List D) (m : List Ob) : Res D := if imAll dl = true then match F dl with
    | some xs => .ok (.obj m.length) (m ++ [.lst xs])
    | none => .bad
  else .bad
@[simp] def callL (F : List D → Option (List D)) (as : MA) (ds : Slots) (ms : List Ob) : Res D := (as ds ms).bind (callLK F)
theorem s_callL {F : List D → Option (List D)} (hF : ∀ dl d, F dl = some d → imAll d = true) (G : Dc X.prog X.w X.K X.mg X.base k x ps (lV F)) (hr : Room k X.A) (hgd : X.A.guards = some []) (hg : Gl X x) (ha : SA X (e :: es) as)
    (hdb : (x == ("__debug__" : Str)) = false := by decide) (he : starEach (e :: es) X.env = (false, eval e X.env) :: starEach es X.env := by rfl) (hpl : (backTo pos (starEach es X.env)).any (·.1) = false := by rfl) : SE X (.Call (.Name x xp) (e :: es) [] pos) (callL F as) := ⟨fun B ds ms Q h =>
  we_callL G hr hgd hg (ha.run B ds ms _ (wp_imp (wp_bind.mp h) fun dl m h => by
    unfold callLK at h
    split at h
    · split at h
      · exact ⟨by assumption, _, by assumption, hF _ _ (by assumption), h⟩
      · exact h.elim
    · exact h.elim)) hdb he hpl⟩
/-- a new list, held fast -/
@[simp] def callRK (F : List D → Option (List D)) (n : Nat) (dl : List D) (m : List Ob) : Res D := if imAll dl = true ∧ n ≤ m.length then match F dl with
    | some xs => .ok (.rol xs) m
    | none => .bad
  else .bad
@[simp] def callR (F : List D → Option (List D)) (as : MA) (ds : Slots) (ms : List Ob) : Res D := (as ds ms).bind (callRK F ms.length)
theorem s_callR {F : List D → Option (List D)} (hF : ∀ dl d, F dl = some d → imAll d = true) (G : Dc X.prog X.w X.K X.mg X.base k x ps (lV F)) (hr : Room k X.A) (hgd : X.A.guards = some []) (hg : Gl X x) (ha : SA X (e :: es) as)
    (hdb : (x == ("__debug__" : Str)) = false := by decide) (he : starEach (e :: es) X.env = (false, eval e X.env) :: starEach es X.env := by rfl) (hpl : (backTo pos (starEach es X.env)).any (·.1) = false := by rfl) : SE X (.Call (.Name x xp) (e :: es) [] pos) (callR F as) := ⟨fun B ds ms Q h =>
  we_frzL (we_callL G hr hgd hg (WA.imp (wa_clos (Q := fun dl m => imAll dl = true ∧ ∃ v, F dl = some v ∧ imAll v = true ∧ ∃ m1 xs, D.obj m.length = .obj m1.length ∧ m ++ [Ob.lst v] = m1 ++ [.lst xs] ∧ ms.length ≤ m1.length ∧ m1.all (Ob.cl m1.length) = true ∧ imAll xs = true ∧ Q (.rol xs) m1) (ha.run B ds ms _ (wp_imp (wp_bind.mp h) fun dl m h hc => by
    unfold callRK at h
    split at h
    · rename_i c
      split at h
      · rename_i xs hx
        exact ⟨c.1, xs, hx, hF _ _ hx, m, xs, rfl, rfl, c.2, hc, hF _ _ hx, h⟩
      · exact h.elim
    · exact h.elim))) fun dl m h => h) hdb he hpl)⟩
@[simp] def callKK (F : List D → Dk → Option (D × Dk)) (dl : List D) (m : List Ob) : Res D := match dl with
  | .obj 1 :: dl' => if imAll dl' = true then match dkOf m with
      | some q => match F dl' q with
        | some (d, q') => .ok d (dkS q' ++ m.drop 2)
        | none => .bad
      | none => .bad
    else .bad
  | _ => .bad
@[simp] def callK (F : List D → Dk → Option (D × Dk)) (as : MA) (ds : Slots) (ms : List Ob) : Res D := (as ds ms).bind (callKK F)
theorem s_callK {F : List D → Dk → Option (D × Dk)} (hF : ∀ dl q d q', F dl q = some (d, q') → d.im = true) (G : Dc X.prog X.w X.K X.mg X.base k x ps (kV F)) (hr : Room k X.A) (hgd : X.A.guards = some []) (hg : Gl X x) (ha : SA X (e :: es) as)
    (hdb : (x == ("__debug__" : Str)) = false := by decide) (he : starEach (e :: es) X.env = (false, eval e X.env) :: starEach es X.env := by rfl) (hpl : (backTo pos (starEach es X.env)).any (·.1) = false := by rfl) : SE X (.Call (.Name x xp) (e :: es) [] pos) (callK F as) := ⟨fun B ds ms Q h =>
  we_callD G hr hgd hg (ha.run B ds ms _ (wp_imp (wp_bind.mp h) fun dl m h => by
    unfold callKK at h
    split at h
    · rename_i dl'
      split at h
      · rename_i hi
        split at h
        · rename_i q hq
          split at h
          · rename_i d q' hd
            have e := dkOf_eq hq
            rw [e]
            generalize m.drop 2 = rest at h ⊢
            have hv := hF _ _ _ _ hd
            refine ⟨[0, 1], dkS q, _, fr_dk hi, dl', q, d, q', rfl, rfl, hd, hv, fun _ => ?_⟩
            rw [ren_im _ _ hv]
            exact (congrArg (Q d) over_dk).mpr h
          · exact h.elim
        · exact h.elim
      · exact h.elim
    · exact h.elim)) hdb he hpl⟩
end
end
end VM

namespace VM
open PySem PySem.Spec PyProof.Rows L2 VL
open Classical
noncomputable section
theorem runK_im {k n : Nat} {m : MS} {dl : List D} {q : Dk} {d : D} {q' : Dk} (h : runK k n m dl q = some (d, q')) : d.im = true := by
  unfold runK at h
  split at h
  · split at h
    · split at h
      · obtain ⟨_, _, e⟩ := Option.map_eq_some_iff.mp h
        cases e; assumption
      · cases h
    · obtain ⟨_, _, e⟩ := Option.map_eq_some_iff.mp h
      cases e; rfl
    · cases h
  · cases h
@[simp] def dic0 (_ : Slots) (ms : List Ob) : Res D := .ok (.obj ms.length) (ms ++ [.dK []])
section
variable {X : Cx} {a b c tg e : Expr} {pos : Pos}
theorem s_dic0' : SE X (.Dict [] [] pos) dic0 := s_dic0
theorem s_powC {i j r : Int} {k k2 : Nat} {p1 p2 : Pos} (hr : i ^ j.toNat = r) (hc : CPow i j) : SE X (.BinOp (.Constant (.int i) k p1) .Pow (.Constant (.int j) k2 p2) pos) (cst (.int r)) := ⟨fun B ds ms Q h =>
  we_bin (we_int (we_int (wo_powC r hr hc h)))⟩
theorem s_negC {i : Int} {k : Nat} {p1 : Pos} : SE X (.UnaryOp .USub (.Constant (.int i) k p1) pos) (cst (.int (-i))) := ⟨fun B ds ms Q h => we_un (we_int (wu_neg h))⟩
/-- raise: not reached -/
theorem st_bad {st : Stmt} : SS X st (fun _ _ => .bad) := ⟨fun B fl ds ms E h => h.elim⟩
/-- T.index(e), T a tuple of texts of the module -/
def idxS (y : Str) (ys : List Str) : Option Nat := ys.findIdx? fun z => decide (z = y)
@[simp] def tixK (ys : List Str) (d : D) (m : List Ob) : Res D := match d with
  | .str y => match idxS y ys with
    | some j => .ok (.int (j : Nat)) m
    | none => .bad
  | _ => .bad
@[simp] def tixE (ys : List Str) (a : ME) (ds : Slots) (ms : List Ob) : Res D := (a ds ms).bind (tixK ys)
theorem idxS_spec {y : Str} {ys : List Str} {j : Nat} (h : idxS y ys = some j) : ys[j]? = some y ∧ ∀ i, i < j → ys[i]? ≠ some y := by
  obtain ⟨hj, h1, h2⟩ := List.findIdx?_eq_some_iff_getElem.mp h
  refine ⟨?_, fun i hi e => ?_⟩
  · rw [List.getElem?_eq_getElem hj]
    exact congrArg some (of_decide_eq_true h1)
  · have := h2 i hi
    obtain ⟨l, e2⟩ := List.getElem?_eq_some_iff.mp e
    rw [e2] at this
    simp at this
theorem s_tix {x : Str} {p apos : Pos} {A : Addr} {ys : List Str} {m : ME} (hm : X.mg x = some (.ref A)) (hk : KTup X.K A ys) (hg : Gl X x) (h1 : SE X e m)
    (hd : (x == ("__debug__" : Str)) = false := by decide) (hbase : attributeBase (.Name x p) "index" X.env (eval (.Name x p) X.env) = eval (.Name x p) X.env := by rfl)
    (hfew : ((backTo pos (starEach (e :: []) X.env)).all (fun x => !x.1) && (backToKw pos (keywordEach [] X.env)).all (fun x => x.1.isSome)
      && decide ((e :: ([] : List Expr)).length + ([] : List Keyword).length + (if ([] : List Keyword).isEmpty then 0 else 1) < 30)) = true := by rfl)
    (hline : (apos.endLine == pos.line) = true := by rfl) (hs : starEach (e :: []) X.env = (false, eval e X.env) :: starEach [] X.env := by rfl) (hpl : (backTo pos (starEach [] X.env)).any (·.1) = false := by rfl) :
    SE X (.Call (.Attribute (.Name x p) "index" apos) [e] [] pos) (tixE ys m) := ⟨fun B ds ms Q h =>
  we_tupIndex hm hk hg (h1.run B ds ms _ (wp_imp (wp_bind.mp h) fun d m h => by
    cases d with
    | str y =>
      simp only [tixK] at h
      split at h
      · rename_i j hj
        exact ⟨y, j, rfl, (idxS_spec hj).1, (idxS_spec hj).2, h⟩
      · exact h.elim
    | _ => exact h.elim)) hd hbase hfew hline hs hpl⟩
/-- s.split(t), held fast -/
@[simp] def splK2 (n : Nat) (x : Str) (e : D) (m2 : List Ob) : Res D := match e with
  | .str y => if (y.length == 0) = false ∧ x.length + 2 ≤ sizeLine ∧ n ≤ m2.length then .ok (.rol ((Txt.split x y).map D.str)) m2 else .bad
  | _ => .bad
@[simp] def splK (n : Nat) (b : ME) (ds : Slots) (d : D) (m : List Ob) : Res D := match d with
  | .str x => (b ds m).bind (splK2 n x)
  | _ => .bad
@[simp] def splR (a b : ME) (ds : Slots) (ms : List Ob) : Res D := (a ds ms).bind (splK ms.length b ds)
theorem s_splR {apos : Pos} {ma mb : ME} (h1 : SE X a ma) (h2 : SE X e mb)
    (hbase : attributeBase a "split" X.env (eval a X.env) = eval a X.env := by rfl)
    (hfew : ((backTo pos (starEach (e :: []) X.env)).all (fun x => !x.1) && (backToKw pos (keywordEach [] X.env)).all (fun x => x.1.isSome)
      && decide ((e :: ([] : List Expr)).length + ([] : List Keyword).length + (if ([] : List Keyword).isEmpty then 0 else 1) < 30)) = true := by rfl)
    (hline : (apos.endLine == pos.line) = true := by rfl) (hs : starEach (e :: []) X.env = (false, eval e X.env) :: starEach [] X.env := by rfl) (hplain : (backTo pos (starEach [] X.env)).any (·.1) = false := by rfl) :
    SE X (.Call (.Attribute a "split" apos) [e] [] pos) (splR ma mb) := ⟨fun B ds ms Q h =>
  we_frzL (we_bm PySem.F.plainAttrs_str PySem.F.slot_str_split PySem.F.type_str_split (h1.run B ds ms _ (wp_imp (wp_bind.mp h) fun d m h => by
    cases d with
    | str x =>
      refine ⟨rfl, wa_clos (wa_cons (h2.run B ds m _ (wp_imp (wp_bind.mp h) fun e m2 h => wa_nil ?_)) hs)⟩
      intro hc
      cases e with
      | str y =>
        simp only [splK2] at h
        split at h
        · rename_i c
          exact wm_split c.1 c.2.1 ⟨m2, _, rfl, rfl, c.2.2, hc, im_strs _, h⟩
        · exact h.elim
      | _ => exact h.elim
    | _ => exact h.elim)) hbase hfew hline hs hplain)⟩
@[simp] def opAddI : MO
  | .int i, .int j, ms => some (.int (i + j), ms)
  | _, _, _ => none
theorem so_iadd : SO X (inplaceOp .Add) opAddI := ⟨fun B ms d e Q h => by
  cases d <;> cases e <;> first
    | exact False.elim h
    | exact fun H θ x y S r1 r2 pins s σ v u I rx ry => in_add pins s σ H x y v u _ I rx ry ⟨_, _, rep_int r1, rep_int r2, pv_same S mk_int h⟩⟩
mutual
theorem cl_mono {n k : Nat} (hk : n ≤ k) : ∀ {d : D}, d.cl n = true → d.cl k = true
  | .non, _ => rfl
  | .bl _, _ => rfl
  | .int _, _ => rfl
  | .str _, _ => rfl
  | .ref _, _ => rfl
  | .ty _, _ => rfl
  | .obj j, h => by
    have : j < n := by simpa [D.cl] using h
    exact decide_eq_true (by omega)
  | .tup ds, h => by unfold D.cl at h ⊢; exact clAll_mono hk h
  | .rol ds, h => by unfold D.cl at h ⊢; exact clAll_mono hk h
  | .rod _ ds, h => by unfold D.cl at h ⊢; exact clAll_mono hk h
theorem clAll_mono {n k : Nat} (hk : n ≤ k) : ∀ {ds : List D}, clAll n ds = true → clAll k ds = true
  | [], _ => rfl
  | d :: ds, h => by
    have h' : d.cl n = true ∧ clAll n ds = true := by simpa [clAll] using h
    unfold clAll; rw [cl_mono hk h'.1, clAll_mono hk h'.2]; rfl
end
/-- what stands in the slots ahead of a statement -/
theorem ws_slr {B : Bs} {fl : Nat} {ds : Slots} {ms : List Ob} {st : Stmt} {E : En} (h : (∀ (j : Nat) (d : D), ds[j]? = some (some d) → D.cl ms.length d = true) → WS X B fl ds ms st E) : WS X B fl ds ms st E := .mk fun σ H θ hf S L =>
  (h fun j d e => by
    obtain ⟨v, _, r⟩ := L.at_ j d e
    have := Rep.clos d v r
    rw [S.len] at this; exact this) σ H θ hf S L
/-- the newest object, in a slot, is held fast -/
theorem ws_frzL (i : Nat) {B : Bs} {fl : Nat} {ds : Slots} {ms : List Ob} {st : Stmt} {E : En}
    (h : WS X B fl ds ms st { E with nx := fun ds' m' => ∃ m1 xs, ds' = ds.set i (some (.obj m1.length)) ∧ m' = m1 ++ [.lst xs] ∧ ms.length ≤ m1.length ∧ m1.all (Ob.cl m1.length) = true ∧ imAll xs = true ∧ E.nx (ds.set i (some (.rol xs))) m1 }) : WS X B fl ds ms st E := by
  refine ws_slr fun hcl => ws_fl fun hfl => .mk fun σ H θ hf S L pins s I => ?_
  refine thn ((h σ H θ hf S L) pins s I) fun f s' z => ?_
  cases f with
  | next =>
    obtain ⟨σ', H', I', ds', ms', θ', L', im, t, S', m1, xs, e1, e2, hle, c1, hi, q⟩ := z
    subst e1; subst e2
    by_cases hil : i < ds.length
    · have hx : (ds.set i (some (D.obj m1.length)))[i]? = some (some (.obj m1.length)) := List.getElem?_set_self hil
      obtain ⟨v, ev, r⟩ := L'.at_ i _ hx
      obtain ⟨x, ex, rfl⟩ := rep_obj r
      obtain ⟨u, hu, rs⟩ := S'.obs m1.length (.lst xs) x gL ex
      obtain ⟨o, I2⟩ := inv_frz I' hu trivial
      have hlen := S'.len
      rw [List.length_append] at hlen
      have S2 := S'.cut (n := m1.length) (by simp) (by rw [List.take_left]; exact c1)
      rw [List.take_left] at S2
      have hnx : x ∉ θ'.take m1.length := fun z => by
        obtain ⟨j, hj, e⟩ := List.getElem_of_mem z
        have hj' : j < m1.length := by rw [List.length_take] at hj; omega
        rw [List.getElem_take] at e
        obtain ⟨l2, e2⟩ := List.getElem?_eq_some_iff.mp ex
        have := (List.getElem_inj S'.nd).mp (e.trans e2.symm)
        omega
      obtain ⟨S3, im3⟩ := S2.other (o := .frz o (.lst u)) hnx (S'.new x (List.mem_of_getElem? ex)) hu rfl
      have rfin : Rep X.K (θ'.take m1.length) (upd H' x (.frz o (.lst u))) (.rol xs) (.ref x) := by
        unfold Rep
        exact ⟨x, u, rfl, .inl ⟨o, upd_same⟩, Reps.mono (Le.refl _) im3 _ _ (Reps.cutA _ _ (im_clA hi) rs)⟩
      refine ⟨σ', _, I2, ds.set i (some (.rol xs)), m1, θ'.take m1.length, ⟨?_, fun j d e => ?_⟩, im.trans im3, ?_, S3, q⟩
      · have := L'.len; rw [List.length_set] at this ⊢; exact this
      · by_cases hj : j = i
        · subst hj
          rw [List.getElem?_set_self hil] at e; cases e
          exact ⟨_, ev, rfin⟩
        · rw [List.getElem?_set_ne (Ne.symm hj)] at e
          obtain ⟨w, ew, rw'⟩ := L'.at_ j d (by rw [List.getElem?_set_ne (Ne.symm hj)]; exact e)
          exact ⟨w, ew, Rep.mono (Le.refl _) im3 _ _ (Rep.cut d w (cl_mono hle (hcl j d e)) rw')⟩
      · rw [List.take_take, show min fl m1.length = fl by omega]; exact t
    · -- the slot is none
      have e0 : ds.set i (some (D.obj m1.length)) = ds := List.set_eq_of_length_le (by omega)
      have e1 : ds.set i (some (D.rol xs)) = ds := List.set_eq_of_length_le (by omega)
      rw [e0] at L'
      rw [e1] at q
      have S2 := S'.cut (n := m1.length) (by simp) (by rw [List.take_left]; exact c1)
      rw [List.take_left] at S2
      refine ⟨σ', H', I', ds, m1, θ'.take m1.length, ⟨L'.len, fun j d e => ?_⟩, im, ?_, S2, q⟩
      · obtain ⟨w, ew, rw'⟩ := L'.at_ j d e
        exact ⟨w, ew, Rep.cut d w (cl_mono hle (hcl j d e)) rw'⟩
      · rw [List.take_take, show min fl m1.length = fl by omega]; exact t
  | ret u => exact z
  | brk => exact z
  | cont => exact z
variable {scope : Scope} {own : List (Str × Nat)} {g : TG} {app : D → Slots → Option Slots} {ifs : List Expr} {elt : Expr} {it : MI} {tst : MT} {me : ME}
theorem st_setLcR (i : Nat) {y : Str} {py spos : Pos} (hc : X.calm = true) (hN : X.N.Nodup) (hy : X.N[i]? = some y) (hyl : X.env.scope.names.lookup y = some .local) (ok : BlkOk X.N X.env.scope scope own) (T : TgLc X scope (own.map (·.2)) tg g app) (h1 : SI X tg e it)
    (h2 : ∀ (s : Shared) (H : Hp) (C : Addr) (cl : List (Str × Addr)) (fp : List Addr), STs (X.blk s H scope (compEnvC scope cl C X.env) fp) ifs tst)
    (h3 : ∀ (s : Shared) (H : Hp) (C : Addr) (cl : List (Str × Addr)) (fp : List Addr), SE (X.blk s H scope (compEnvC scope cl C X.env) fp) elt me)
    (hsw : swapsWith (.ListComp elt [⟨tg, e, ifs, 0⟩] scope pos) (some (.Name y py)) spos.line X.env = pure true) : SS X (.Assign [.Name y py] (.ListComp elt [⟨tg, e, ifs, 0⟩] scope pos) spos) (setS i (lcR (own.map (·.2)) app it tst me)) := ⟨fun B fl ds ms E h => by
  refine ws_frzL i (ws_setLc i hc hN hy hyl ok T (h1.run B ds ms _ (wp_imp (wp_bind.mp (wp_bind.mp (wp_bind.mp h))) fun p m h => ?_)) hsw h1.fs)
  unfold lcIK at h
  split at h
  · refine lc_word (Q := fun d m' => ∃ m1 xs, ds.set i (some d) = ds.set i (some (.obj m1.length)) ∧ m' = m1 ++ [.lst xs] ∧ ms.length ≤ m1.length ∧ m1.all (Ob.cl m1.length) = true ∧ imAll xs = true ∧ E.nx (ds.set i (some (.rol xs))) m1) h2 h3 (by assumption) (wp_imp h fun ys m h hcl => ?_)
    unfold lcRK at h
    split at h
    · rename_i c
      exact ⟨m, ys, rfl, rfl, c.2, hcl, c.1, h⟩
    · exact h.elim
  · exact h.elim⟩
theorem lawP_sp {K : PySem.W.Frag} {H : Hp} {a : Addr} {ns : List Int} {n : Nat} {F : List D → Option D} (hF : ∀ ns : List Int, ns.length ≤ n → F [.rol (ns.map D.int)] = some (.bl true)) (hl : ns.length ≤ n) (h : SqLi K H a (ns.map V.int)) : spOf K (pV F) [.ref a] H (fun v _ => v = .bl true) E0 := by
  obtain ⟨dl, ms, θ, R, r, S, p, f⟩ := lawV_sp (K := K) (H := H) hl h
  exact ⟨dl, ms, θ, R, r, S, by
    obtain ⟨ns, hl, rfl, rfl, q⟩ := p
    exact ⟨rfl, _, hF ns hl, q []⟩, f⟩
end
end
end VM

namespace VM
open PySem PySem.Spec PyProof.Rows L2 VL
open Classical
noncomputable section
/-! ## calls with the whole store -/
theorem ren_id {f : Nat → Nat} (hf : ∀ j, f j = j) : (∀ d : D, d.ren f = d) ∧ ∀ ds : List D, renAll f ds = ds := by
  have key : ∀ d : D, d.ren f = d := fun d => by
    refine D.rec (motive_1 := fun d => d.ren f = d) (motive_2 := fun ds => renAll f ds = ds) ?_ ?_ ?_ ?_ ?_ ?_ ?_ ?_ ?_ ?_ ?_ ?_ d
    all_goals intros
    all_goals first
      | rfl
      | (unfold D.ren; first | rw [hf] | (rename_i h; rw [h]))
      | (unfold renAll; rename_i h1 h2; rw [h1, h2])
  refine ⟨key, fun ds => ?_⟩
  induction ds with
  | nil => rfl
  | cons d ds ih => unfold renAll; rw [key d, ih]
theorem obren_id {f : Nat → Nat} (hf : ∀ j, f j = j) (ob : Ob) : ob.ren f = ob := by
  have kv : ∀ {κ : Type} (l : List (κ × D)), renKV f l = l := fun {κ} l => by
    induction l with
    | nil => rfl
    | cons p l ih => obtain ⟨k, d⟩ := p; unfold renKV; rw [(ren_id hf).1 d, ih]
  cases ob with
  | lst ds => show Ob.lst (renAll f ds) = _; rw [(ren_id hf).2]
  | dK kvs => show Ob.dK (renKV f kvs) = _; rw [kv]
  | dT kvs => show Ob.dT (renKV f kvs) = _; rw [kv]
  | ins C fs => show Ob.ins C (renKV f fs) = _; rw [kv]
theorem fr_range (n j : Nat) : fr (List.range n) n j = j := by
  unfold fr
  split
  · rw [List.getElem_range]
  · rename_i h
    rw [List.length_range] at h ⊢
    omega
theorem over_all {f : Nat → Nat} (hf : ∀ j, f j = j) : ∀ (pre ms ml : List Ob), ms.length ≤ ml.length → over f (List.range' pre.length ms.length) (pre ++ ms) ml = pre ++ ml
  | pre, [], ml, _ => by
    show pre ++ [] ++ ml.map (Ob.ren f) = _
    rw [List.append_nil]
    congr 1
    conv => rhs; rw [← List.map_id ml]
    exact List.map_congr_left fun ob _ => obren_id hf ob
  | pre, m :: ms, [], h => by simp at h
  | pre, m :: ms, o :: ml, h => by
    rw [List.length_cons, List.range'_succ]
    unfold over
    rw [obren_id hf o, show (pre ++ m :: ms).set pre.length o = (pre ++ [o]) ++ ms by simp]
    have := over_all hf (pre ++ [o]) ms ml (by simpa using h)
    rw [List.length_append] at this
    rw [show pre.length + 1 = pre.length + [o].length from rfl]
    rw [this, List.append_assoc]; rfl
theorem fr_all {ms : List Ob} {dl : List D} : Fr ms dl (List.range ms.length) ms dl where
  nd := List.nodup_range
  len := List.length_range
  at_ := fun j k e => by
    obtain ⟨hj, e2⟩ := List.getElem?_eq_some_iff.mp e
    rw [List.getElem_range] at e2
    subst e2
    rw [List.length_range] at hj
    exact ⟨ms[j], List.getElem?_eq_getElem hj, by rw [obren_id (fr_range _)]; exact List.getElem?_eq_getElem hj⟩
  args := ((ren_id (fr_range _)).2 dl).symm
theorem callF_all {φ : VSp} {dl : List D} {ms : List Ob} {Q : D → List Ob → Prop} (h : φ dl ms fun d m' => ms.length ≤ m'.length → Q d m') (mono : ∀ R R' : D → List Ob → Prop, (∀ d m, R d m → R' d m) → φ dl ms R → φ dl ms R') : CallF φ dl ms Q :=
  ⟨List.range ms.length, ms, dl, fr_all, mono _ _ (fun d m z hl => by
    rw [List.length_range] at hl
    rw [(ren_id (fr_range _)).1, List.range_eq_range']
    have := over_all (fr_range ms.length) [] ms m hl
    rw [List.nil_append, List.nil_append] at this
    rw [List.range_eq_range'] at this
    rw [show ([] : List Ob).length = 0 from rfl] at this
    rw [this]
    exact z hl) h⟩
theorem aV_mono {G : List D → List Ob → Res D} {dl : List D} {ms : List Ob} (R R' : D → List Ob → Prop) (h : ∀ d m, R d m → R' d m) (z : aV G dl ms R) : aV G dl ms R' := wp_imp z h
section
variable {X : Cx} {pos : Pos} {k : Nat} {x : Str} {ps : List Str} {xp : Pos} {e : Expr} {es : List Expr} {as : MA}
@[simp] def callAK (G : List D → List Ob → Res D) (dl : List D) (m : List Ob) : Res D := nox (G dl m)
@[simp] def callA (G : List D → List Ob → Res D) (as : MA) (ds : Slots) (ms : List Ob) : Res D := (as ds ms).bind (callAK G)
theorem wp_noxF {α : Type} {r : Res α} {Q : α → List Ob → Prop} {W : Xd → Slots → List Ob → Prop} (h : wp (nox r) Q W) : wp r Q fun _ _ _ => False := wp_nox h
theorem s_callA {G : List D → List Ob → Res D} (D0 : Dc X.prog X.w X.K X.mg X.base k x ps (aV G)) (hr : Room k X.A) (hgd : X.A.guards = some []) (hg : Gl X x) (ha : SA X (e :: es) as)
    (hdb : (x == ("__debug__" : Str)) = false := by decide) (he : starEach (e :: es) X.env = (false, eval e X.env) :: starEach es X.env := by rfl) (hpl : (backTo pos (starEach es X.env)).any (·.1) = false := by rfl) : SE X (.Call (.Name x xp) (e :: es) [] pos) (callA G as) := ⟨fun B ds ms Q h =>
  we_callD D0 hr hgd hg (ha.run B ds ms _ (wp_imp (wp_bind.mp h) fun dl m h => callF_all (φ := aV G) (wp_imp (wp_noxF h) fun d m' q _ => q) aV_mono)) hdb he hpl⟩
end
end
end VM

namespace VM
open PySem PySem.Spec PyProof.Rows L2 VL
open Classical
noncomputable section

/-! ## places -/
@[simp] theorem atI_cast {α : Type} (xs : List α) (j : Nat) : atI xs (j : Int) = xs[j]? := by
  by_cases h : j < xs.length
  · rw [List.getElem?_eq_getElem h]; exact atI_nat (List.getElem?_eq_getElem h)
  · unfold atI ixN
    rw [if_pos (by omega), if_neg (by omega), List.getElem?_eq_none (by omega)]; rfl
@[simp] theorem ixN_cast (l j : Nat) : ixN l (j : Int) = if j < l then some j else none := by
  unfold ixN
  rw [if_pos (by omega)]
  by_cases h : j < l
  · rw [if_pos (by omega), if_pos h]; simp
  · rw [if_neg (by omega), if_neg h]
@[simp] theorem atI_0 {α : Type} (xs : List α) : atI xs 0 = xs[0]? := atI_cast xs 0
@[simp] theorem ixN_0 (l : Nat) : ixN l 0 = if 0 < l then some 0 else none := ixN_cast l 0
@[simp] theorem atI_1 {α : Type} (xs : List α) : atI xs 1 = xs[1]? := atI_cast xs 1
@[simp] theorem ixN_1 (l : Nat) : ixN l 1 = if 1 < l then some 1 else none := ixN_cast l 1
@[simp] theorem atI_2 {α : Type} (xs : List α) : atI xs 2 = xs[2]? := atI_cast xs 2
@[simp] theorem ixN_2 (l : Nat) : ixN l 2 = if 2 < l then some 2 else none := ixN_cast l 2
@[simp] theorem atI_3 {α : Type} (xs : List α) : atI xs 3 = xs[3]? := atI_cast xs 3
@[simp] theorem ixN_3 (l : Nat) : ixN l 3 = if 3 < l then some 3 else none := ixN_cast l 3
@[simp] theorem atI_4 {α : Type} (xs : List α) : atI xs 4 = xs[4]? := atI_cast xs 4
@[simp] theorem ixN_4 (l : Nat) : ixN l 4 = if 4 < l then some 4 else none := ixN_cast l 4
@[simp] theorem atI_5 {α : Type} (xs : List α) : atI xs 5 = xs[5]? := atI_cast xs 5
@[simp] theorem ixN_5 (l : Nat) : ixN l 5 = if 5 < l then some 5 else none := ixN_cast l 5
/-! ## one iteration, loops -/
/-- the target and the body -/
def turn (tg : MG) (body : MS) (d : D) (ds : Slots) (m : List Ob) : Res Fl := (tg d ds m).bind body
theorem forL_nil {g : Gd} {tg : MG} {body : MS} {k : List Nat} {gc : Bool} {n : Nat} {ds : Slots} {m : List Ob} (hg : gOk g m) : forL g tg body k gc n [] ds m = .ok (.nx ds) m := by
  unfold forL; rw [if_pos hg]
theorem forL_cons {g : Gd} {tg : MG} {body : MS} {k : List Nat} {gc : Bool} {n : Nat} {d : D} {r : List D} {ds : Slots} {m : List Ob} (hg : gOk g m) : forL g tg body k gc n (d :: r) ds m = (turn tg body d ds m).bind fun f m2 => match f with
      | .nx ds2 => forL g tg body k gc n r (turnEnd k gc n ds2 m2).1 (turnEnd k gc n ds2 m2).2
      | .ct ds2 => forL g tg body k gc n r (turnEnd k gc n ds2 m2).1 (turnEnd k gc n ds2 m2).2
      | .bk ds2 => .ok (.nx ds2) m2
      | .rt d => .ok (.rt d) m2 := by
  conv => lhs; unfold forL
  rw [if_pos hg]
  unfold turn
  cases tg d ds m <;> rfl
theorem turnEnd_no {k : List Nat} {gc : Bool} {n : Nat} {ds : Slots} {m : List Ob} (h : m.length ≤ n) : turnEnd k gc n ds m = (killD ds k, m) := by
  unfold turnEnd
  rw [if_neg fun c => absurd c.2.1 (by omega)]
/-- each iteration goes on: a fold over states -/
theorem forL_fold {σ : Type} (S : σ → Slots) (M : σ → List Ob) (f : σ → D → σ) {g : Gd} {tg : MG} {body : MS} {k : List Nat} {gc : Bool} {n : Nat} : ∀ (items : List D) (s : σ), (∀ s, gOk g (M s)) →
    (∀ s d, d ∈ items → ∃ ds2 m2, turn tg body d (S s) (M s) = .ok (.nx ds2) m2 ∧ turnEnd k gc n ds2 m2 = (S (f s d), M (f s d))) →
    forL g tg body k gc n items (S s) (M s) = .ok (.nx (S (items.foldl f s))) (M (items.foldl f s))
  | [], s, hg, _ => forL_nil (hg s)
  | d :: r, s, hg, h => by
    obtain ⟨ds2, m2, e1, e2⟩ := h s d List.mem_cons_self
    rw [forL_cons (hg s), e1, bind_ok]
    show forL g tg body k gc n r (turnEnd k gc n ds2 m2).1 (turnEnd k gc n ds2 m2).2 = _
    rw [e2, List.foldl_cons]
    exact forL_fold S M f r (f s d) hg fun s x hx => h s x (List.mem_cons_of_mem _ hx)
/-- a loop that seeks: it returns at the first item with p, and leaves all as it was otherwise -/
theorem forL_find {g : Gd} {tg : MG} {body : MS} {k : List Nat} {gc : Bool} {n : Nat} {ds : Slots} {m : List Ob} (p : D → Bool) (r : D → D) (hg : gOk g m) : ∀ (items : List D),
    (∀ d ∈ items, (p d = true → turn tg body d ds m = .ok (.rt (r d)) m) ∧ (p d = false → ∃ ds2 m2, turn tg body d ds m = .ok (.nx ds2) m2 ∧ turnEnd k gc n ds2 m2 = (ds, m))) →
    forL g tg body k gc n items ds m = match items.find? p with
      | some d => .ok (.rt (r d)) m
      | none => .ok (.nx ds) m
  | [], h => forL_nil hg
  | d :: l, h => by
    obtain ⟨h1, h2⟩ := h d List.mem_cons_self
    rw [forL_cons hg, List.find?_cons]
    cases hp : p d with
    | true => rw [h1 hp]; rfl
    | false =>
      obtain ⟨ds2, m2, e1, e2⟩ := h2 hp
      rw [e1, bind_ok]
      show forL g tg body k gc n l (turnEnd k gc n ds2 m2).1 (turnEnd k gc n ds2 m2).2 = _
      rw [e2]
      exact forL_find p r hg l fun x hx => h x (List.mem_cons_of_mem _ hx)
/-- by an invariant; the loop goes to its end -/
theorem forL_inv {g : Gd} {tg : MG} {body : MS} {k : List Nat} {gc : Bool} {n : Nat} (I : Nat → Slots → List Ob → Prop) : ∀ (items : List D) (i : Nat) (ds : Slots) (m : List Ob), (∀ i ds m, I i ds m → gOk g m) → I i ds m →
    (∀ j d ds m, items[j]? = some d → I (i + j) ds m → ∃ ds2 m2, turn tg body d ds m = .ok (.nx ds2) m2 ∧ I (i + j + 1) (turnEnd k gc n ds2 m2).1 (turnEnd k gc n ds2 m2).2) →
    ∃ ds' m', forL g tg body k gc n items ds m = .ok (.nx ds') m' ∧ I (i + items.length) ds' m'
  | [], i, ds, m, hg, h0, _ => ⟨ds, m, forL_nil (hg i ds m h0), h0⟩
  | d :: r, i, ds, m, hg, h0, h => by
    obtain ⟨ds2, m2, e1, e2⟩ := h 0 d ds m rfl h0
    obtain ⟨ds', m', e3, e4⟩ := forL_inv I r (i + 1) _ _ hg e2 fun j d ds m hj hI => by
      have := h (j + 1) d ds m (by simpa using hj) (by rw [show i + (j + 1) = i + 1 + j by omega]; exact hI)
      rw [show i + (j + 1) + 1 = i + 1 + j + 1 by omega] at this
      exact this
    refine ⟨ds', m', ?_, by rw [List.length_cons, show i + (r.length + 1) = i + 1 + r.length by omega]; exact e4⟩
    rw [forL_cons (hg i ds m h0), e1, bind_ok]
    exact e3

/-! ## comprehensions -/
theorem lcL_map {g : Gd} {app : D → Slots → Option Slots} {ds0 : Slots} {tst : MT} {elt : ME} {m : List Ob} (p : D → Bool) (f : D → D) (hg : gOk g m) : ∀ (items : List D),
    (∀ d ∈ items, ∃ ds', app d ds0 = some ds' ∧ tst ds' m = .ok (p d) m ∧ (p d = true → elt ds' m = .ok (f d) m)) → lcL g app ds0 tst elt items m = .ok ((items.filter p).map f) m
  | [], _ => by unfold lcL; rw [if_pos hg]; rfl
  | d :: r, h => by
    obtain ⟨ds', e1, e2, e3⟩ := h d List.mem_cons_self
    unfold lcL
    rw [if_pos hg, e1]
    simp only [e2, nox, bind_ok]
    have ih := lcL_map p f hg r fun x hx => h x (List.mem_cons_of_mem _ hx)
    cases hp : p d with
    | true =>
      rw [if_pos rfl, e3 hp]
      simp only [nox, bind_ok]
      rw [show keepM m.length (f d) m = m by unfold keepM; rw [if_pos (Nat.le_refl _)], ih, List.filter_cons_of_pos (by exact hp), List.map_cons]
      rfl
    | false => rw [if_neg (by decide), ih, List.filter_cons_of_neg (by rw [hp]; decide)]
/-- over what is made of xs -/
theorem lcL_mapE {α : Type} {g : Gd} {app : D → Slots → Option Slots} {ds0 : Slots} {tst : MT} {elt : ME} {m : List Ob} (xs : List α) (en : α → D) (p : α → Bool) (f : α → D) (hg : gOk g m)
    (h : ∀ a ∈ xs, ∃ ds', app (en a) ds0 = some ds' ∧ tst ds' m = .ok (p a) m ∧ (p a = true → elt ds' m = .ok (f a) m)) : lcL g app ds0 tst elt (xs.map en) m = .ok ((xs.filter p).map f) m := by
  induction xs with
  | nil => rw [List.map_nil]; unfold lcL; rw [if_pos hg]; rfl
  | cons a r ih =>
    obtain ⟨ds', e1, e2, e3⟩ := h a List.mem_cons_self
    rw [List.map_cons]
    unfold lcL
    rw [if_pos hg, e1]
    simp only [e2, nox, bind_ok]
    have ih := ih fun x hx => h x (List.mem_cons_of_mem _ hx)
    cases hp : p a with
    | true =>
      rw [if_pos rfl, e3 hp]
      simp only [nox, bind_ok]
      rw [show keepM m.length (f a) m = m by unfold keepM; rw [if_pos (Nat.le_refl _)], ih, List.filter_cons_of_pos (by exact hp), List.map_cons]
      rfl
    | false => rw [if_neg (by decide), ih, List.filter_cons_of_neg (by rw [hp]; decide)]
/-- without a test -/
theorem lcL_all {α : Type} {g : Gd} {app : D → Slots → Option Slots} {ds0 : Slots} {elt : ME} {m : List Ob} (xs : List α) (en : α → D) (f : α → D) (hg : gOk g m)
    (h : ∀ a ∈ xs, ∃ ds', app (en a) ds0 = some ds' ∧ elt ds' m = .ok (f a) m) : lcL g app ds0 yesT elt (xs.map en) m = .ok (xs.map f) m := by
  have := lcL_mapE (g := g) (app := app) (ds0 := ds0) (tst := yesT) (elt := elt) (m := m) xs en (fun _ => true) f hg fun a ha => by
    obtain ⟨ds', e1, e2⟩ := h a ha
    exact ⟨ds', e1, rfl, fun _ => e2⟩
  rw [this]
  congr 2
  exact List.filter_eq_self.mpr fun _ _ => rfl
/-- by an invariant: each element is drawn, with what it leaves -/
theorem lcL_inv {g : Gd} {app : D → Slots → Option Slots} {ds0 : Slots} {elt : ME} (I : Nat → List D → List Ob → Prop) : ∀ (items : List D) (i : Nat) (acc : List D) (m : List Ob), (∀ i acc m, I i acc m → gOk g m) → I i acc m →
    (∀ j d acc m, items[j]? = some d → I (i + j) acc m → ∃ ds' y m2, app d ds0 = some ds' ∧ elt ds' m = .ok y m2 ∧ I (i + j + 1) (acc ++ [y]) (keepM m.length y m2)) →
    ∃ ys m', lcL g app ds0 yesT elt items m = .ok ys m' ∧ ys.length = items.length ∧ I (i + items.length) (acc ++ ys) m'
  | [], i, acc, m, hg, h0, _ => ⟨[], m, by unfold lcL; rw [if_pos (hg i acc m h0)], rfl, by rw [List.append_nil]; exact h0⟩
  | d :: r, i, acc, m, hg, h0, h => by
    obtain ⟨ds', y, m2, e1, e2, e3⟩ := h 0 d acc m rfl h0
    obtain ⟨ys, m', e4, e5, e6⟩ := lcL_inv I r (i + 1) (acc ++ [y]) _ hg e3 fun j d acc m hj hI => by
      have := h (j + 1) d acc m (by simpa using hj) (by rw [show i + (j + 1) = i + 1 + j by omega]; exact hI)
      rw [show i + (j + 1) + 1 = i + 1 + j + 1 by omega] at this
      exact this
    refine ⟨y :: ys, m', ?_, by rw [List.length_cons, e5, List.length_cons], by rw [List.length_cons, show i + (r.length + 1) = i + 1 + r.length by omega]; rw [List.append_assoc] at e6; exact e6⟩
    unfold lcL
    rw [if_pos (hg i acc m h0), e1]
    simp only [yesT, nox, bind_ok, if_true, e2]
    rw [e4]; rfl
theorem keepM_same {n : Nat} {d : D} {m : List Ob} (h : m.length ≤ n) : keepM n d m = m := by
  unfold keepM; rw [if_pos h]

/-! ## data compared by evaluation -/
def oeqb (a : Option D) (b : D) : Bool := match a with
  | some a => D.eqb a b
  | none => false
theorem oeqb_eq {a : Option D} {b : D} (h : oeqb a b = true) : a = some b := by
  cases a with
  | none => cases h
  | some a => rw [eqb_eq a b h]
def oleqb (a : Option (List D)) (b : List D) : Bool := match a with
  | some a => eqbAll a b
  | none => false
theorem oleqb_eq {a : Option (List D)} {b : List D} (h : oleqb a b = true) : a = some b := by
  cases a with
  | none => cases h
  | some a => rw [eqbAll_eq a b h]
end
end VM
namespace VM
open PySem PySem.Spec PyProof.Rows L2 VL
@[simp] theorem sizeLine_lit : sizeLine = 16777216 := sizeLine_eq
@[simp] theorem startD_eq (n : Nat) (dl : List D) : startD n dl = dl.map some ++ List.replicate (n - dl.length) none := rfl
@[simp] theorem imAll_nil : imAll [] = true := rfl
@[simp] theorem imAll_cons (d : D) (ds : List D) : imAll (d :: ds) = (d.im && imAll ds) := rfl
@[simp] theorem imAll_append : ∀ (a b : List D), imAll (a ++ b) = (imAll a && imAll b)
  | [], b => by rw [List.nil_append, imAll_nil, Bool.true_and]
  | d :: a, b => by rw [List.cons_append, imAll_cons, imAll_cons, imAll_append a b, Bool.and_assoc]
@[simp] theorem im_non : D.im .non = true := rfl
@[simp] theorem im_bl (b : Bool) : D.im (.bl b) = true := rfl
@[simp] theorem im_int (i : Int) : D.im (.int i) = true := rfl
@[simp] theorem im_str (x : Str) : D.im (.str x) = true := rfl
@[simp] theorem im_ty (x : String) : D.im (.ty x) = true := rfl
@[simp] theorem im_obj (k : Nat) : D.im (.obj k) = false := rfl
@[simp] theorem im_tup (ds : List D) : D.im (.tup ds) = imAll ds := by show (D.tup ds).im = _; unfold D.im; rfl
@[simp] theorem im_rol (ds : List D) : D.im (.rol ds) = imAll ds := by show (D.rol ds).im = _; unfold D.im; rfl
@[simp] theorem imAll_ints (l : List Int) : imAll (l.map D.int) = true := im_ints l
@[simp] theorem imAll_strs (l : List Str) : imAll (l.map D.str) = true := im_strs l
@[simp] theorem imAll_dS (l : List (List Nat)) : imAll (l.map dS) = true := im_dS l
@[simp] theorem imAll_rows (l : List (List Nat)) : imAll (l.map rowD) = true := im_rows l
@[simp] theorem im_cmp (c : Cmp) : c.d.im = true := Cmp.im c
theorem imAll_map {α : Type} {f : α → D} {l : List α} (h : ∀ a ∈ l, (f a).im = true) : imAll (l.map f) = true := imAll_iff.mpr fun d hd => by
  obtain ⟨a, ha, rfl⟩ := List.mem_map.mp hd
  exact h a ha
end VM
namespace VM
open PySem PySem.Spec PyProof.Rows L2 VL
@[simp] theorem dkOf_lst (l : List Int) (c : Int) (r : List Ob) : dkOf (.lst (l.map D.int) :: .lst [.obj 0, .int c] :: r) = some (l, c) := dkOf_dk (l, c) r
@[simp] theorem dkOf_set (l : List Int) (j : Nat) (x c : Int) (r : List Ob) : dkOf (.lst ((l.map D.int).set j (.int x)) :: .lst [.obj 0, .int c] :: r) = some (l.set j x, c) := by
  rw [← List.map_set]; exact dkOf_lst _ _ _
@[simp] theorem dkOf_nil (c : Int) (r : List Ob) : dkOf (.lst [] :: .lst [.obj 0, .int c] :: r) = some ([], c) := dkOf_dk ([], c) r
@[simp] theorem dkOf_dkS (q : Dk) (r : List Ob) : dkOf (dkS q ++ r) = some q := dkOf_dk q r
@[simp] theorem dkOf_dkS0 (q : Dk) : dkOf (dkS q) = some q := by have := dkOf_dk q []; rwa [List.append_nil] at this
@[simp high] theorem dkS_drop (q : Dk) (r : List Ob) : (dkS q ++ r).drop 2 = r := rfl
@[simp high] theorem dkS_drop0 (q : Dk) : (dkS q).drop 2 = [] := rfl
@[simp high] theorem dkS_len (q : Dk) : (dkS q).length = 2 := rfl
end VM

namespace VM
open PySem PySem.Spec PyProof.Rows L2 VL
open Classical
/-! ## the deck's state -/
structure Dq (q : Dk) (n : Int) : Prop where
  ok : DkOk q.1 q.2
  le : q.2 + n ≤ dkMost
structure Dr (q q' : Dk) (n : Int) : Prop where
  ok : DkOk q'.1 q'.2
  lo : q.2 ≤ q'.2
  hi : q'.2 ≤ q.2 + n
theorem Dr.refl {q : Dk} (ok : DkOk q.1 q.2) : Dr q q 0 := ⟨ok, Int.le_refl _, by omega⟩
theorem Dr.trans {q q' q'' : Dk} {m n : Int} (a : Dr q q' m) (b : Dr q' q'' n) : Dr q q'' (m + n) := ⟨b.ok, Int.le_trans a.lo b.lo, by have := a.hi; have := b.hi; omega⟩
theorem Dr.mono {q q' : Dk} {m n : Int} (a : Dr q q' m) (h : m ≤ n) : Dr q q' n := ⟨a.ok, a.lo, by have := a.hi; omega⟩
theorem Dq.mono {q : Dk} {m n : Int} (a : Dq q m) (h : n ≤ m) : Dq q n := ⟨a.ok, by have := a.le; omega⟩
theorem Dq.go {q q' : Dk} {m n : Int} (a : Dq q m) (b : Dr q q' n) : Dq q' (m - n) := ⟨b.ok, by have := a.le; have := b.hi; omega⟩
section
variable {app : D → Slots → Option Slots} {ds0 : Slots} {tst : MT} {elt : ME} {m : List Ob}
@[simp] theorem lcL_tt_nil : lcL .tt app ds0 tst elt [] m = .ok [] m := by unfold lcL; rw [if_pos (show gOk Gd.tt m from trivial)]
def lcKz (y : D) (ys : List D) (m : List Ob) : Res (List D) := .ok (y :: ys) m
@[simp] theorem lcKz_eq (y : D) (ys : List D) (m : List Ob) : lcKz y ys m = .ok (y :: ys) m := rfl
def lcK2 (app : D → Slots → Option Slots) (ds0 : Slots) (tst : MT) (elt : ME) (r : List D) (n : Nat) (y : D) (m : List Ob) : Res (List D) := (lcL .tt app ds0 tst elt r (keepM n y m)).bind (lcKz y)
@[simp] theorem lcK2_eq (r : List D) (n : Nat) (y : D) (m : List Ob) : lcK2 app ds0 tst elt r n y m = (lcL .tt app ds0 tst elt r (keepM n y m)).bind (lcKz y) := rfl
def lcK1 (app : D → Slots → Option Slots) (ds0 : Slots) (tst : MT) (elt : ME) (ds' : Slots) (r : List D) (n : Nat) (b : Bool) (m : List Ob) : Res (List D) := if b then (nox (elt ds' m)).bind (lcK2 app ds0 tst elt r n) else lcL .tt app ds0 tst elt r m
@[simp] theorem lcK1_eq (ds' : Slots) (r : List D) (n : Nat) (b : Bool) (m : List Ob) : lcK1 app ds0 tst elt ds' r n b m = if b then (nox (elt ds' m)).bind (lcK2 app ds0 tst elt r n) else lcL .tt app ds0 tst elt r m := rfl
@[simp] theorem lcL_tt_cons {d : D} {r : List D} : lcL .tt app ds0 tst elt (d :: r) m = match app d ds0 with
    | some ds' => (nox (tst ds' m)).bind (lcK1 app ds0 tst elt ds' r m.length)
    | none => .bad := by
  conv => lhs; unfold lcL
  rw [if_pos (show gOk Gd.tt m from trivial)]
  cases app d ds0 <;> rfl
@[simp] theorem keepM_self {n : Nat} {y : D} {m : List Ob} : keepM m.length y m = m := keepM_same (Nat.le_refl _)
/-- each element is drawn -/
theorem lcL_dk {β : Type} (en : β → D) (P : D → β → Prop) (cost : Nat) (rest : List Ob) {g : Gd} : ∀ (items : List D) (q : Dk), (∀ q, gOk g (dkS q ++ rest)) → DkOk q.1 q.2 →
    (∀ d ∈ items, ∀ q1, DkOk q1.1 q1.2 → q1.2 + cost ≤ q.2 + cost * items.length → ∃ ds' b q2, app d ds0 = some ds' ∧ elt ds' (dkS q1 ++ rest) = .ok (en b) (dkS q2 ++ rest) ∧ P d b ∧ Dr q1 q2 cost) →
    ∃ (bs : List β) (q' : Dk), lcL g app ds0 yesT elt items (dkS q ++ rest) = .ok (bs.map en) (dkS q' ++ rest) ∧ bs.length = items.length ∧ (∀ b ∈ bs, ∃ d ∈ items, P d b) ∧ Dr q q' (cost * items.length)
  | [], q, hg, ok, _ => ⟨[], q, by unfold lcL; rw [if_pos (hg q)]; rfl, rfl, fun _ h => absurd h List.not_mem_nil, by simpa using Dr.refl ok⟩
  | d :: r, q, hg, ok, h => by
    have hlen : ((d :: r).length : Int) = (r.length : Int) + 1 := by simp
    have hmul : (cost : Int) * ((r.length : Int) + 1) = cost * r.length + cost := by rw [Int.mul_add, Int.mul_one]
    have h0 : (0 : Int) ≤ cost * (r.length : Int) := Int.mul_nonneg (by omega) (by omega)
    obtain ⟨ds', b, q2, e1, e2, hP, hd⟩ := h d List.mem_cons_self q ok (by rw [hlen, hmul]; omega)
    obtain ⟨bs, q', e3, e4, e5, hd'⟩ := lcL_dk en P cost rest r q2 hg hd.ok fun x hx q1 ok1 hq => h x (List.mem_cons_of_mem _ hx) q1 ok1 (by
      rw [hlen, hmul]
      have := hd.hi
      omega)
    refine ⟨b :: bs, q', ?_, by rw [List.length_cons, e4, List.length_cons], fun x hx => ?_, (hd.trans hd').mono (by rw [hlen, hmul]; omega)⟩
    · unfold lcL
      rw [if_pos (hg q), e1]
      simp only [yesT, nox, bind_ok, if_true, e2]
      rw [keepM_same (by show (dkS q2 ++ rest).length ≤ (dkS q ++ rest).length; rw [List.length_append, List.length_append]; exact Nat.le_refl _), e3]
      rfl
    · rcases List.mem_cons.mp hx with z | z
      · subst z; exact ⟨d, List.mem_cons_self, hP⟩
      · obtain ⟨y, hy, hy2⟩ := e5 x z
        exact ⟨y, List.mem_cons_of_mem _ hy, hy2⟩
end
@[simp] theorem srcO_dS (ms : List Ob) (l : List Nat) : srcO ms (dS l) = some (l.map fun c => dS [c], .tt) := by
  show some ((mkS l).cps.toList.map (fun c => D.str ⟨#[c]⟩), Gd.tt) = _
  rw [mkS_items]
/-- one iteration that ends as it began but for the store -/
theorem forL_map {α : Type} (xs : List α) (en : α → D) (Sl : Slots) (M : Nat → List Ob) {g : Gd} {tg : MG} {body : MS} {k : List Nat} {gc : Bool} {n : Nat} (hg : ∀ i, gOk g (M i))
    (h : ∀ i a, xs[i]? = some a → ∃ ds2 m2, turn tg body (en a) Sl (M i) = .ok (.nx ds2) m2 ∧ turnEnd k gc n ds2 m2 = (Sl, M (i + 1))) :
    forL g tg body k gc n (xs.map en) Sl (M 0) = .ok (.nx Sl) (M xs.length) := by
  obtain ⟨ds', m', e, rfl, rfl⟩ := forL_inv (g := g) (tg := tg) (body := body) (k := k) (gc := gc) (n := n) (fun i ds m => ds = Sl ∧ m = M i) (xs.map en) 0 Sl (M 0) (fun i ds m hI => hI.2 ▸ hg i) ⟨rfl, rfl⟩ fun j d ds m hj hI => by
    obtain ⟨rfl, rfl⟩ := hI
    obtain ⟨a, ha, rfl⟩ := getE_map hj
    obtain ⟨ds2, m2, e1, e2⟩ := h j a ha
    rw [Nat.zero_add]
    exact ⟨ds2, m2, e1, by rw [e2], by rw [e2]⟩
  rw [e, Nat.zero_add, List.length_map]
end VM
namespace VM
open PySem PySem.Spec PyProof.Rows L2 VL
section
variable {q : Dk} {r : List Ob} {x : Ob}
@[simp high] theorem dk_get2 : (dkS q ++ r)[2]? = r[0]? := rfl
@[simp high] theorem dk_set2 : (dkS q ++ r).set 2 x = dkS q ++ r.set 0 x := rfl
@[simp high] theorem dk_get3 : (dkS q ++ r)[3]? = r[1]? := rfl
@[simp high] theorem dk_set3 : (dkS q ++ r).set 3 x = dkS q ++ r.set 1 x := rfl
@[simp high] theorem dk_get4 : (dkS q ++ r)[4]? = r[2]? := rfl
@[simp high] theorem dk_set4 : (dkS q ++ r).set 4 x = dkS q ++ r.set 2 x := rfl
@[simp high] theorem dk_get5 : (dkS q ++ r)[5]? = r[3]? := rfl
@[simp high] theorem dk_set5 : (dkS q ++ r).set 5 x = dkS q ++ r.set 3 x := rfl
@[simp high] theorem dk_get6 : (dkS q ++ r)[6]? = r[4]? := rfl
@[simp high] theorem dk_set6 : (dkS q ++ r).set 6 x = dkS q ++ r.set 4 x := rfl
@[simp high] theorem dk_get7 : (dkS q ++ r)[7]? = r[5]? := rfl
@[simp high] theorem dk_set7 : (dkS q ++ r).set 7 x = dkS q ++ r.set 5 x := rfl
@[simp high] theorem dk_get8 : (dkS q ++ r)[8]? = r[6]? := rfl
@[simp high] theorem dk_set8 : (dkS q ++ r).set 8 x = dkS q ++ r.set 6 x := rfl
@[simp high] theorem dk_get9 : (dkS q ++ r)[9]? = r[7]? := rfl
@[simp high] theorem dk_set9 : (dkS q ++ r).set 9 x = dkS q ++ r.set 7 x := rfl
@[simp high] theorem dk_get0 : (dkS q ++ r)[0]? = some (.lst (q.1.map D.int)) := rfl
@[simp high] theorem dk_get1 : (dkS q ++ r)[1]? = some (.lst [.obj 0, .int q.2]) := rfl
@[simp high] theorem dk_get00 : (dkS q)[0]? = some (.lst (q.1.map D.int)) := rfl
@[simp high] theorem dk_get01 : (dkS q)[1]? = some (.lst [.obj 0, .int q.2]) := rfl
theorem rep_row (n : Nat) (v : Int) (m : Nat) (hv : v = (m : Nat)) : (List.replicate n [D.int v]).flatten = (List.replicate n m).map fun n => D.int (n : Nat) := by
  induction n with
  | zero => rfl
  | succ n ih => rw [List.replicate_succ, List.replicate_succ, List.flatten_cons, List.map_cons, ih, hv]; rfl
end
end VM
namespace VM
open PySem PySem.Spec PyProof.Rows L2 VL
@[simp] theorem s_mkS_cps (a : List Nat) : (mkS a).cps.toList = a := mkS_cps a
@[simp] theorem s_mkS_size (a : List Nat) : (mkS a).cps.size = a.length := by simp [mkS]
@[simp] theorem s_mkS_one (c : Nat) : (⟨#[c]⟩ : Str) = mkS [c] := rfl
@[simp] theorem s_mkS_len (a : List Nat) : (mkS a).length = a.length := mkS_len a
@[simp] theorem s_mkS_app (a b : List Nat) : mkS a ++ mkS b = mkS (a ++ b) := mkS_app a b
@[simp] theorem wipeD_nil (ds : Slots) : wipeD ds [] = ds := rfl
@[simp] theorem wipeD_cons (ds : Slots) (v : Nat) (vs : List Nat) : wipeD ds (v :: vs) = (wipeD ds vs).set v none := rfl
@[simp] theorem s_mkS_eq (a b : List Nat) : (mkS a = mkS b) ↔ a = b := mkS_eq
end VM
namespace VM
open PySem PySem.Spec PyProof.Rows L2 VL
@[simp] theorem keepM_le {n : Nat} {d : D} {m : List Ob} (h : m.length ≤ n) : keepM n d m = m := keepM_same h
end VM
namespace VM
open PySem PySem.Spec PyProof.Rows L2 VL
@[simp] theorem imAll_nats (l : List Nat) : imAll (l.map fun i => D.int (i : Nat)) = true := imAll_map fun _ _ => rfl
@[simp] theorem imAll_rep (n : Nat) (d : D) (h : d.im = true) : imAll (List.replicate n d) = true := imAll_iff.mpr fun x hx => by rw [List.eq_of_mem_replicate hx]; exact h
@[simp] theorem imAll_dSs (l : List Nat) : imAll (l.map fun c => dS [c]) = true := imAll_map fun _ _ => rfl
end VM
namespace VM
open PySem PySem.Spec PyProof.Rows L2 VL
@[simp] theorem imAll_repI (n : Nat) (i : Int) : imAll (List.replicate n (D.int i)) = true := by rw [imAll_rep _ _ rfl]
@[simp] theorem imAll_repS (n : Nat) (i : Str) : imAll (List.replicate n (D.str i)) = true := by rw [imAll_rep _ _ rfl]
@[simp] theorem imAll_repB (n : Nat) (i : Bool) : imAll (List.replicate n (D.bl i)) = true := by rw [imAll_rep _ _ rfl]
end VM
namespace VM
theorem ubd {j B : Nat} (h : j ≤ B) : ∀ k, B ≤ k → j ≤ k := fun k h2 => Nat.le_trans h h2
theorem ubdI {j B : Int} (h : j ≤ B) : ∀ k, B ≤ k → j ≤ k := fun k h2 => Int.le_trans h h2
theorem lbdI {j B : Int} (h : B ≤ j) : ∀ k, k ≤ B → k ≤ j := fun k h2 => Int.le_trans h2 h
end VM

namespace VM
open PySem PySem.Spec PyProof.Rows L2 TL VL
/-- a row as it may be written -/
structure RowOk (r : List Nat) : Prop where
  ne : r ≠ []
  len : r.length ≤ 15
  lt : ∀ n ∈ r, n < 400
theorem strs_eq (r : List Nat) (v : Int) : [D.str "state"] ++ r.map (fun n => D.str (numS n)) ++ [D.str (wordS v)] = (partsS r v).map D.str := by
  unfold partsS
  rw [List.map_cons, List.map_append, List.map_map]; rfl
theorem sum_le {b : Nat} : ∀ {ys : List Str}, (∀ y ∈ ys, y.length ≤ b) → (ys.map (·.length)).sum ≤ ys.length * b
  | [], _ => Nat.zero_le _
  | y :: r, h => by
    rw [List.map_cons, List.sum_cons, List.length_cons, Nat.succ_mul]
    have h1 := h y List.mem_cons_self
    have h2 := sum_le fun x hx => h x (List.mem_cons_of_mem _ hx)
    omega
structure WrOk (c : Cmp) : Prop where
  ok : c.Ok
  few : c.rows.length ≤ 400
theorem WrOk.row {c : Cmp} (h : WrOk c) : ∀ r ∈ c.rows, RowOk r := fun r hr => by
  have hw := h.ok.wid r hr
  have h1 := h.ok.l1
  have h3 := h.ok.l3
  refine ⟨fun e => ?_, by rw [hw]; exact sq15 h3, fun n hn => Nat.lt_of_lt_of_le (h.ok.in_ r hr n hn) h.few⟩
  rw [e] at hw
  have h4 : 2 * 2 ≤ (c.L + 1) * (c.L + 1) := Nat.mul_le_mul (by omega) (by omega)
  have : ([] : List Nat).length = 0 := rfl
  omega
theorem zip_rows (c : Cmp) : zipD (c.rows.map rowD) (c.marks.map D.int) = (c.rows.zip c.marks).map fun p => .tup [rowD p.1, .int p.2] := by
  unfold zipD
  rw [List.zipWith_map]
  show _ = (List.zipWith Prod.mk c.rows c.marks).map _
  rw [List.map_zipWith]
theorem head_eq {L : Nat} (h1 : 1 ≤ L) (h3 : L ≤ 3) : ("letters" : Str) ++ " " ++ cutS "abc" none (some (L : Int)) = headS L := by
  rcases lcase h1 h3 with rfl | rfl | rfl <;> decide +kernel
theorem head_len (L : Nat) : (headS L).length ≤ 11 := by
  unfold headS
  split
  · decide +kernel
  · split <;> decide +kernel
theorem lines_eq (c : Cmp) : [D.str (headS c.L)] ++ (c.rows.zip c.marks).map (fun p => D.str (lineS p.1 p.2)) = (linesS c).map D.str := by
  unfold linesS
  rw [List.map_cons, List.map_map]; rfl
theorem text_len {c : Cmp} (ok : WrOk c) : (textS c).length ≤ 80000 := by
  rw [← tl_len]
  unfold textS
  rw [join_tl]
  refine Nat.le_trans (joinL_len (b := 187) fun p hp => ?_) ?_
  · obtain ⟨y, hy, rfl⟩ := List.mem_map.mp hp
    rw [tl_len]
    rcases List.mem_cons.mp hy with rfl | hy
    · exact Nat.le_trans (head_len c.L) (by decide)
    · obtain ⟨q, hq, rfl⟩ := List.mem_map.mp hy
      have ro := ok.row _ (List.of_mem_zip hq).1
      exact line_len (fun n hn => Nat.lt_trans (ro.lt n hn) (by decide)) ro.len
  · have h2 : (linesS c).length ≤ 401 := by
      have := ok.few
      unfold linesS; rw [List.length_cons, List.length_map, List.length_zip]; omega
    rw [List.length_map]
    have e : (tl "\n").length = 1 := by decide +kernel
    rw [e]
    exact Nat.le_trans (Nat.mul_le_mul_right _ h2) (by decide)
theorem zip_ne {c : Cmp} (ok : c.Ok) : (c.rows.zip c.marks).length = c.rows.length := by rw [List.length_zip, ok.mkl, Nat.min_self]
theorem head_in {L : Nat} (h1 : 1 ≤ L) (h3 : L ≤ 3) : headL[L - 1]? = some (headS L) ∧ (∀ i, i < L - 1 → headL[i]? ≠ some (headS L)) ∧ (headL.any fun z => z == headS L) = true := by
  rcases lcase h1 h3 with rfl | rfl | rfl
  · exact ⟨rfl, fun i h => absurd h (Nat.not_lt_zero i), by decide +kernel⟩
  · exact ⟨rfl, fun i h => by match i, h with | 0, _ => decide +kernel, by decide +kernel⟩
  · exact ⟨rfl, fun i h => by match i, h with | 0, _ => decide +kernel | 1, _ => decide +kernel, by decide +kernel⟩
theorem word_ix {v : Int} (h1 : -1 ≤ v) (h2 : v ≤ 1) : wordL[(v + 1).toNat]? = some (wordS v) ∧ ∀ i, i < (v + 1).toNat → wordL[i]? ≠ some (wordS v) := by
  have : v = -1 ∨ v = 0 ∨ v = 1 := by omega
  rcases this with rfl | rfl | rfl
  · exact ⟨rfl, fun i h => absurd h (Nat.not_lt_zero i)⟩
  · exact ⟨rfl, fun i h => by match i, h with | 0, _ => decide +kernel⟩
  · exact ⟨rfl, fun i h => by match i, h with | 0, _ => decide +kernel | 1, _ => decide +kernel⟩
theorem parts_cut (r : List Nat) (v : Int) : cutD ((partsS r v).map D.str) (some 1) (some (-1)) = r.map fun n => D.str (numS n) := by
  rw [cutD_eq]
  unfold partsS
  rw [List.map_cons, List.map_append]
  refine (cut_mid _ _ _).trans ?_
  rw [List.map_map]; rfl
theorem parts_last (r : List Nat) (v : Int) : atI ((partsS r v).map D.str) (-1) = some (.str (wordS v)) := by
  unfold partsS
  rw [List.map_cons, List.map_append]
  exact L2.atI_last (D.str "state" :: (r.map numS).map D.str) (D.str (wordS v))
theorem rows_zip {c : Cmp} (ok : c.Ok) : (c.rows.zip c.marks).map (fun p => rowD p.1) = c.rows.map rowD := by
  rw [show (fun p : List Nat × Int => rowD p.1) = rowD ∘ Prod.fst from rfl, ← List.map_map, List.map_fst_zip (by rw [ok.mkl]; exact Nat.le_refl _)]
theorem marks_zip {c : Cmp} (ok : c.Ok) : (c.rows.zip c.marks).map (fun p => D.int p.2) = c.marks.map D.int := by
  rw [show (fun p : List Nat × Int => D.int p.2) = D.int ∘ Prod.snd from rfl, ← List.map_map, List.map_snd_zip (by rw [ok.mkl]; exact Nat.le_refl _)]
theorem err_none {c : Cmp} (ok : c.Ok) : errD c.d = .non := by
  have hL : intInD 1 3 (.int (c.L : Nat)) = true := by
    have h1 := ok.l1
    have h3 := ok.l3
    show (decide ((1 : Int) ≤ (c.L : Nat)) && decide (((c.L : Nat) : Int) ≤ 3)) = true
    rw [decide_eq_true (by omega), decide_eq_true (by omega)]; rfl
  have hne : c.rows.map rowD ≠ [] := fun e => ok.ne (List.map_eq_nil_iff.mp e)
  have hr : ∀ x ∈ c.rows.map rowD, isRowD c.L (c.rows.map rowD).length x = true := fun x hx => by
    obtain ⟨r, hr, rfl⟩ := List.mem_map.mp hx
    have e1 : (r.map fun n => D.int (n : Nat)).length = wideN c.L := by rw [List.length_map, ok.wid r hr, wideN_eq ok.l1 ok.l3]
    show (decide ((r.map fun n => D.int (n : Nat)).length = wideN c.L) && List.isEmpty _) = true
    rw [decide_eq_true e1, Bool.true_and, List.isEmpty_iff, List.filter_eq_nil_iff]
    intro d hd
    obtain ⟨n, hn, rfl⟩ := List.mem_map.mp hd
    have := ok.in_ r hr n hn
    show ¬ (!(decide ((0 : Int) ≤ (n : Nat)) && decide (((n : Nat) : Int) ≤ ((c.rows.map rowD).length : Int) - 1))) = true
    rw [List.length_map, decide_eq_true (by omega), decide_eq_true (by omega)]; decide
  have hm : isMarksD (c.rows.map rowD).length (.tup (c.marks.map D.int)) = true := by
    have e1 : (c.marks.map D.int).length = (c.rows.map rowD).length := by rw [List.length_map, List.length_map, ok.mkl]
    show (decide ((c.marks.map D.int).length = (c.rows.map rowD).length) && List.isEmpty _) = true
    rw [decide_eq_true e1, Bool.true_and, List.isEmpty_iff, List.filter_eq_nil_iff]
    intro d hd
    obtain ⟨v, hv, rfl⟩ := List.mem_map.mp hd
    have := ok.mr v hv
    show ¬ (!(decide ((-1 : Int) ≤ v) && decide (v ≤ 1))) = true
    rw [decide_eq_true (by omega), decide_eq_true (by omega)]; decide
  show errD (.tup [.int (c.L : Nat), .tup (c.rows.map rowD), .tup (c.marks.map D.int)]) = .non
  rw [err_in hL hne, errR_none hr, if_pos hm]
theorem im_strsF {α : Type} (l : List α) (f : α → Str) : imAll (l.map fun a => D.str (f a)) = true := imAll_iff.mpr fun d hd => by
  obtain ⟨i, _, rfl⟩ := List.mem_map.mp hd; rfl
end VM

namespace VM
open PySem PySem.Spec PyProof.Rows L2 TL VL
open Classical
noncomputable section
/-! ## a part of a list, held fast -/
@[simp] def slRO (n : Nat) (d : D) (lo hi : Option Int) (ms : List Ob) : Option (D × List Ob) := match d with
  | .str z => if z.length ≤ sizeLine then some (.str (cutS z lo hi), ms) else none
  | .tup xs => some (.tup (cutD xs lo hi), ms)
  | d => match lstOf ms d with
    | some xs => if imAll (cutD xs lo hi) = true ∧ n ≤ ms.length then some (.rol (cutD xs lo hi), ms) else none
    | none => none
@[simp] def slRK3 (n : Nat) (d : D) (l u : Option Int) (m : List Ob) : Res D := ofO (slRO n d l u m)
@[simp] def slRK2 (n : Nat) (hi : MP) (ds : Slots) (d : D) (l : Option Int) (m : List Ob) : Res D := (hi ds m).bind (slRK3 n d l)
@[simp] def slRK (n : Nat) (lo hi : MP) (ds : Slots) (d : D) (m : List Ob) : Res D := (lo ds m).bind (slRK2 n hi ds d)
@[simp] def slR (a : ME) (lo hi : MP) (ds : Slots) (ms : List Ob) : Res D := (a ds ms).bind (slRK ms.length lo hi ds)
section
variable {X : Cx} {a : Expr} {pos : Pos}
theorem wl_lstC {B : Bs} {ms : List Ob} {Q : D → List Ob → Prop} {d : D} {xs : List D} {lo hi : Option Int} (hk : lstOf ms d = some xs) (q : ms.all (Ob.cl ms.length) = true → Q (.obj ms.length) (ms ++ [.lst (cutD xs lo hi)])) : WL X B ms d lo hi Q := WL.of sl_list fun H θ x S r => by
  obtain ⟨p, vs, rfl, s, rs⟩ := lst_rep hk S r
  exact ⟨p, vs, rfl, s, fun l hl => pv_lst S (rs.cut lo hi) hl (q (sat_clos S))⟩
variable {B : Bs} {ds : List (Option D)} {ms : List Ob} {Q : D → List Ob → Prop} {a b c : Expr}
/-- the newest object is held fast, or all stays -/
theorem we_frzO {e : Expr} (h : WE X B ds ms e fun d m => Q d m ∨ ∃ m1 xs, d = .obj m1.length ∧ m = m1 ++ [.lst xs] ∧ ms.length ≤ m1.length ∧ m1.all (Ob.cl m1.length) = true ∧ imAll xs = true ∧ Q (.rol xs) m1) : WE X B ds ms e Q := .mk fun σ H θ S L pins s I =>
  thn (h σ H θ S L pins s I) fun u s' ⟨v, H', I', rv, d, m, more, r, im, S', q⟩ => by
    rcases q with q | ⟨m1, xs, e1, e2, hle, c1, c2, q⟩
    · exact ⟨v, H', I', rv, d, m, more, r, im, S', q⟩
    subst e1; subst e2
    obtain ⟨x, ex, rfl⟩ := rep_obj r
    have hlen := S'.len
    rw [List.length_append, List.length_append] at hlen
    have hml : more.length = m1.length + 1 - θ.length := by
      have : [Ob.lst xs].length = 1 := rfl
      omega
    have hob := S'.obs m1.length (.lst xs) x gL ex
    obtain ⟨w, hw, mu, hi, hr⟩ := frzL_ok (.lst xs) (.rol xs) ⟨xs, rfl, rfl⟩ _ _ _ _ hob
    obtain ⟨o, I2⟩ := inv_frz I' hw mu
    have ht : (θ ++ more).take m1.length = θ ++ more.take (m1.length - θ.length) := by
      rw [List.take_append, List.take_of_length_le (by rw [S.len]; exact hle)]
    have S2 := S'.cut (n := m1.length) (by simp) (by rw [List.take_left]; exact c1)
    rw [List.take_left] at S2
    have hx : x ∉ (θ ++ more).take m1.length := fun z => by
      obtain ⟨j, hj, e⟩ := List.getElem_of_mem z
      have hj' : j < m1.length := by rw [List.length_take] at hj; omega
      rw [List.getElem_take] at e
      obtain ⟨l2, e2⟩ := List.getElem?_eq_some_iff.mp ex
      have := (List.getElem_inj S'.nd).mp (e.trans e2.symm)
      omega
    obtain ⟨S3, im3⟩ := S2.other (o := .frz o w) hx (S'.new x (List.mem_of_getElem? ex)) hw hi
    refine ⟨.ref x, upd H' x (.frz o w), I2, rv, .rol xs, m1, more.take (m1.length - θ.length), ?_, im.trans im3, ?_, q⟩
    · rw [← ht]; exact hr _ _ (by unfold D.cl; exact im_clA c2)
    · rw [← ht]; exact S3
theorem s_slR {lo hi : Option Expr} {p2 : Pos} {m : ME} {ml mh : MP} (h1 : SE X a m) (h2 : SP X lo ml) (h3 : SP X hi mh) : SE X (.Subscript a (.Slice lo hi none p2) pos) (slR m ml mh) := ⟨fun B ds ms Q h =>
  we_frzO (we_slice (h1.run B ds ms _ (wp_imp (wp_bind.mp h) fun d m h => h2.run B ds m _ (wp_imp (wp_bind.mp h) fun l m2 h => h3.run B ds m2 _ (wp_imp (wp_bind.mp h) fun u m3 h => by
    have h := wp_ofO.mp h
    unfold slRO at h
    split at h
    · split at h
      · exact wl_S (by assumption) (.inl h)
      · exact h.elim
    · exact wl_T (.inl h)
    · split at h
      · split at h
        · rename_i c
          exact wl_lstC (by assumption) fun hc => .inr ⟨_, _, rfl, rfl, c.2, hc, c.1, h⟩
        · exact h.elim
      · exact h.elim)))))⟩
end
/-- each element may leave what nobody asks -/
theorem lcL_allK {α : Type} {g : Gd} {app : D → Slots → Option Slots} {ds0 : Slots} {elt : ME} {m : List Ob} (xs : List α) (en : α → D) (f : α → D) (hg : gOk g m)
    (h : ∀ a ∈ xs, ∃ ds' m2, app (en a) ds0 = some ds' ∧ elt ds' m = .ok (f a) m2 ∧ keepM m.length (f a) m2 = m) : lcL g app ds0 yesT elt (xs.map en) m = .ok (xs.map f) m := by
  induction xs with
  | nil => rw [List.map_nil]; unfold lcL; rw [if_pos hg]; rfl
  | cons a r ih =>
    obtain ⟨ds', m2, e1, e2, e3⟩ := h a List.mem_cons_self
    rw [List.map_cons]
    unfold lcL
    rw [if_pos hg, e1]
    simp only [yesT, nox, bind_ok, if_true, e2]
    rw [e3, ih fun x hx => h x (List.mem_cons_of_mem _ hx)]
    rfl
end
end VM

/-! several except clauses, with names and without -/
namespace L2
open PySem PySem.Spec PyProof.Rows
abbrev Suite := Addr → Value → Option Addr → TS
def endsAt (i : Nat) (D : Ends) : Ends := { nx := fun σ' H' => D.nx (σ'.set i none) H', rt := D.rt, bk := fun σ' H' => D.bk (σ'.set i none) H', ct := fun σ' H' => D.ct (σ'.set i none) H' }
def wClause (K : PySem.W.Frag) (Wout : WX) (D : Ends) : List (Value × Option Nat × Suite) → WX
  | [] => Wout
  | (c, none, ts) :: r => fun cls d σ H => ∃ b, PySem.W.exmOne K cls c = some b ∧ (b = true → ∀ a, H a = none → ts a cls d D σ H) ∧ (b = false → wClause K Wout D r cls d σ H)
  | (c, some i, ts) :: r => fun cls d σ H => ∃ b, PySem.W.exmOne K cls c = some b ∧ (b = true → ∀ a, H a = none → ts a cls d (endsAt i D) (σ.set i (some (.ref a))) H) ∧ (b = false → wClause K Wout D r cls d σ H)
def SuiteOk (X : Cx) (ss : List Stmt) (ts : Suite) : Prop := ∀ (a : Addr) (oe : Obj) (cls : Value) (d : Option Addr) (pn : List (Addr × Obj)), Zc cls d oe → (∃ vs, oe.data = .fields vs) → PSs (X.suite a ((a, oe) :: pn)) ss (ts a cls d)
inductive Clauses (X : Cx) : List ExceptHandler → List (Value × Option Nat × Suite) → Prop
  | nil : Clauses X [] []
  | no {x : Str} {c : Value} {ts : Suite} {b₀ : Stmt} {suite : List Stmt} {np pos' : Pos} {hds : List ExceptHandler} {l : List (Value × Option Nat × Suite)} (hc : Names X x c) (hsu : SuiteOk X (b₀ :: suite) ts) (r : Clauses X hds l) :
      Clauses X (.ExceptHandler (some (.Name x np)) none (b₀ :: suite) pos' :: hds) ((c, none, ts) :: l)
  | as {x n : Str} {i : Nat} {c : Value} {ts : Suite} {b₀ : Stmt} {suite : List Stmt} {np pos' : Pos} {hds : List ExceptHandler} {l : List (Value × Option Nat × Suite)} (hc : Names X x c) (hi : X.N[i]? = some n) (hln : X.env.kindOf n = some .local) (hsu : SuiteOk X (b₀ :: suite) ts) (r : Clauses X hds l) :
      Clauses X (.ExceptHandler (some (.Name x np)) (some n) (b₀ :: suite) pos' :: hds) ((c, some i, ts) :: l)
section
variable {X : Cx} {body : List Stmt} {h₀ : ExceptHandler} {hds : List ExceptHandler} {l : List (Value × Option Nat × Suite)} {pos : Pos} {tb : WX → TS} {Wout : WX}
theorem ps_try_clauses (hs : X.stack = X.env :: X.outer) (hf : X.env.frame = some X.env.locals) (hN : X.N.Nodup) (tk : Takes X Wout)
    (hb : ∀ (W : WX) (pn : List (Addr × Obj)) (xe : Value → Shared → Prop), Takes (X.tr pn xe) W → PassesOwn (model X.prog X.w) X.A X.env xe → PSs (X.tr pn xe) body (tb W))
    (hh : Clauses X (h₀ :: hds) l) : PS X (.Try body (h₀ :: hds) [] [] pos) (fun D σ H => tb (wClause X.K Wout D l) D σ H) := by
  refine ⟨fun pins s σ H D I h => ?_⟩
  have ok := I.ok
  have hfr : X.A.frames = some (X.env :: X.outer) := by rw [ok.frames, hs]
  refine wpAny_Try_except ?_
  refine wpAny_mono ((hb (wClause X.K Wout D l) (X.pn ++ pins) (fun e s₁ => wpAny (model X.prog X.w) X.A (noteFrame e X.env) (fun _ s₂ => wpAny (model X.prog X.w) X.A (setFlight e none) (fun _ s₃ =>
    wpAny (model X.prog X.w) X.A (handleBy e X.env (h₀ :: hds)) (SP X pins D) X.xe s₃) X.xe s₂) X.xe s₁) (fun u s' xx => ?_) PassesOwn.looking).run [] s σ H D (I.toTry _) h) (fun f s1 hsp => ?_) (fun e s1 he => he)
  · obtain ⟨a, B, sI, pins', σ', H', cls, d, rfl, J', nb, up, sky, na, os, ag, w⟩ := xx
    have J : Inv X pins σ' H' sI := J'.ofTry ok
    have sky' : Sky B (X.env :: X.outer) a (Zc cls d) X.env.locals s'.heap := by rw [← hs]; exact sky
    show wpAny (model X.prog X.w) X.A (noteFrame (.ref a) X.env) _ _ _
    refine Sky.land Zc.steady hfr hf sky' fun h3 fl3 up3 => ?_
    have J3 : Inv X pins σ' H' { s' with heap := h3 } := J.landed nb fl3.1 (up.trans up3) os ag
    obtain ⟨oe3, vs3, he3, hz3, hd3⟩ := fl3.there
    have nfr : a ∉ frs (X.env :: X.outer) := fun hm => by
      obtain ⟨_, o', e', hnf⟩ := fl3.2.2.1.mem hm
      rw [he3] at e'; cases e'
      exact hnf _ hd3
    have nL : a ≠ X.env.locals := fun z => nfr (List.mem_filterMap.mpr ⟨X.env, List.mem_cons_self, by rw [hf, z]⟩)
    have nF : a ∉ X.fs := fun hm => by
      obtain ⟨e, he, q⟩ := List.mem_filterMap.mp hm
      exact nfr (List.mem_filterMap.mpr ⟨e, List.mem_cons_of_mem _ he, q⟩)
    have S3 := J3.suite he3 hd3 na nL nF
    have test : ∀ {x : Str} {np : Pos} {c : Value} (hc : Names X x c) {Q : Value → Shared → Prop} {E : Value → Shared → Prop}, Q c { s' with heap := h3 } → wpAny (model X.prog X.w) (X.A.mark (some (.ref a))) (eval (.Name x np) X.env) Q E { s' with heap := h3 } := fun {x np c} hc {Q E} q => by
      obtain ⟨hg, hdbg, hm | ⟨hm, hv, hnn⟩⟩ := hc
      · exact ld_glob (X := X.suite a ((a, oe3) :: (X.pn ++ pins))) S3 hg hm q hdbg
      · exact ld_blt (X := X.suite a ((a, oe3) :: (X.pn ++ pins))) S3 hg hm hv q hnn hdbg
    have LT : PySem.W.Looks (model X.prog X.w) h3 (typeOf (.ref a)) cls := fun A Q E s k q => wpAny_typeOf_ref (k _ _ he3) (by rw [hz3.1]; exact q)
    have go : ∀ {hds' : List ExceptHandler} {l' : List (Value × Option Nat × Suite)}, Clauses X hds' l' → wClause X.K Wout D l' cls d σ' H' →
        wpAny (model X.prog X.w) X.A (handleBy (.ref a) X.env hds') (SP X pins D) X.xe { s' with heap := h3 } := by
      intro hds' l' hk
      induction hk with
      | nil =>
        intro w
        refine wpAny_handleBy_nil ?_
        obtain ⟨k1, k2, k3, oe, vs, T, oT, ts', he, hz, hd, h1, hr⟩ := id fl3
        unfold PySem.passOn
        refine wpAny_bind (wpAny_field he hd h1 ?_)
        rw [if_neg (show ¬ ((Value.ref T == Value.none) = true) from by simp)]
        have fin : wpAny (model X.prog X.w) X.A (setFlight (.ref a) X.env.frame) (fun _ s4 => wpAny (model X.prog X.w) X.A (throw (.ref a) : Sem Flow) (SP X pins D) X.xe s4) X.xe { s' with heap := h3 } := by
          rw [hf]
          refine HandSPX.setFlight_upZ fl3 fun h4 hh4 up4 => wpAny_throw (tk _ _ ?_)
          exact ⟨a, B, sI, pins, σ', H', cls, d, rfl, J, nb, (up.trans up3).trans up4, .inr (.inr (by rw [hs]; exact hh4)), na, os, ag, w⟩
        first
          | exact wpAny_bind (wpAny_pure (wpAny_bind fin))
          | exact wpAny_bind fin
      | no hc hsu r ih =>
        intro w
        obtain ⟨b, hb1, hyes, hno⟩ := w
        refine wpAny_handleBy_cons (codeAny_handlers_test ?_) (by intro q; cases q)
        refine test hc ((PySem.W.exm_one (M := model X.prog X.w) (J3.kIn) LT hb1).here ?_)
        cases b with
        | true =>
          refine codeAny_handlers_suite ?_
          refine HandSPX.lands_againZ fl3 fun h4 fl4 up4 => ?_
          have J4 : Inv X pins σ' H' { s' with heap := h4 } := J.landed nb fl4.1 ((up.trans up3).trans up4) os ag
          obtain ⟨oe4, vs4, he4, hz4, hd4⟩ := fl4.there
          have S4 := J4.suite he4 hd4 na nL nF
          refine wpAny_mono ((hsu a oe4 cls d (X.pn ++ pins) hz4 ⟨_, hd4⟩).run [] _ _ H' _ S4 (hyes rfl a na)) (fun f s6 hsp => ?_) (fun _ _ z => False.elim z)
          cases f with
          | ret u =>
            obtain ⟨v6, σ6, H6, S6, r6, q6⟩ := hsp
            exact ⟨_, _, _, S6.unsuite ok, r6, q6⟩
          | _ =>
            obtain ⟨σ6, H6, S6, q6⟩ := hsp
            exact ⟨_, _, S6.unsuite ok, q6⟩
        | false => exact ih (hno rfl)
      | @as x n i c ts b₀ suite np pos' hds2 l2 hc hi hln hsu r ih =>
        intro w
        obtain ⟨b, hb1, hyes, hno⟩ := w
        refine wpAny_handleBy_cons (codeAny_handlers_test ?_) (by intro q; cases q)
        refine test hc ((PySem.W.exm_one (M := model X.prog X.w) (J3.kIn) LT hb1).here ?_)
        cases b with
        | true =>
          refine codeAny_handlers_suite_as ?_
          refine HandSPX.lands_againZ fl3 fun h4 fl4 up4 => ?_
          have J4 : Inv X pins σ' H' { s' with heap := h4 } := J.landed nb fl4.1 ((up.trans up3).trans up4) os ag
          obtain ⟨oe4, vs4, he4, hz4, hd4⟩ := fl4.there
          have S4 := J4.suite he4 hd4 na nL nF
          refine store_ok (X := X.suite a ((a, oe4) :: (X.pn ++ pins))) (v := .ref a) S4 hN hi (.inl hln) rfl (fun s5 S5 => ?_) (.inr hln)
          refine wpAny_mono ((hsu a oe4 cls d (X.pn ++ pins) hz4 ⟨_, hd4⟩).run [] s5 _ H' _ S5 (hyes rfl a na)) (fun f s6 hsp => ?_) (fun _ _ z => False.elim z)
          have end_ : ∀ {σ6 : St} {H6 : Hp} {Q : Shared → Prop}, Inv (X.suite a ((a, oe4) :: (X.pn ++ pins))) [] σ6 H6 s6 → (∀ s7, Inv X pins (σ6.set i none) H6 s7 → Q s7) →
              wpAny (model X.prog X.w) X.A (do bindName X.env n .none; unbindBehindTheSuite X.env n pos') (fun _ s7 => Q s7) X.xe s6 := fun {σ6 H6 Q} S6 hq => gone_ok (S6.unsuite ok) hN hi hln hq
          cases f with
          | ret u =>
            obtain ⟨v6, σ6, H6, S6, r6, q6⟩ := hsp
            exact end_ S6 fun s7 J7 => ⟨_, _, _, J7, r6, q6⟩
          | _ =>
            obtain ⟨σ6, H6, S6, q6⟩ := hsp
            exact end_ S6 fun s7 J7 => ⟨_, _, J7, q6⟩
        | false => exact ih (hno rfl)
    exact go hh w
  · cases f with
    | next =>
      obtain ⟨σ', H', J', q⟩ := hsp
      exact wpAny_execs_nil ⟨σ', H', J'.ofTry ok, q⟩
    | ret u =>
      obtain ⟨v, σ', H', J', r, q⟩ := hsp
      exact ⟨v, σ', H', J'.ofTry ok, r, q⟩
    | _ =>
      obtain ⟨σ', H', J', q⟩ := hsp
      exact ⟨σ', H', J'.ofTry ok, q⟩
end
end L2

namespace VM
open PySem PySem.Spec PyProof.Rows L2 TL VL
open Classical
noncomputable section
/-! ## defs that may raise -/
structure FnGX (P : Program) (w : World) (K : PySem.W.Frag) (mg : Str → Option Value) (base : Heap) (k : Nat) (f : Addr) (fd : FuncData) (ps : List Str) (sp : Sp) : Prop where
  len : ∀ vs H Q E, sp vs H Q E → vs.length = ps.length
  run : ∀ (A : Around) (outer : List Env) (s : Shared) (H : Hp) (args : Args) (us : List Value)
    (vs : List V) (Q : VK) (E : XK), Room k A → A.guards = some [] → Env0 P w K mg base A outer s H →
    BindsTo s fd args (ps.zip us) → Vals vs us → sp vs H Q E →
    codeAny (model P w) A (.call (.ref f) args) (CR (L2.CX P w) outer P w H s Q E) s
section
variable {P : Program} {w : World} {K : PySem.W.Frag} {mg : Str → Option Value} {base : Heap}
theorem FnGX.up {j k : Nat} {f : Addr} {fd : FuncData} {ps : List Str} {sp : Sp} (F : FnGX P w K mg base j f fd ps sp) (h : j ≤ k) : FnGX P w K mg base k f fd ps sp :=
  ⟨F.len, fun A outer s H args us vs Q E hr => F.run A outer s H args us vs Q E (hr.mono h)⟩
theorem fnGX_of {k : Nat} {f : Addr} {x qual : Str} {st : Stmt} {fd : FuncData} {N ps : List Str} {sp : Sp}
    (F : Fun K x qual st f fd) (S : FnScope N ps (defScope st)) (len : ∀ vs H Q E, sp vs H Q E → vs.length = ps.length)
    (hbody : ∀ (cdv : Value) (A : Around) (outer : List Env) (s : Shared) (H : Hp) (vs : List V) (Q : VK) (E : XK),
      Room k (A.deeper (envOfC qual (defScope st) s.heap.objs.size f cdv)) → A.guards = some [] → sp vs H Q E →
      tssCan (cxOf (L2.CX P w) P w K mg base N qual (defScope st) f cdv A outer s H E) (defBody st)
        ⟨fun _ H' => Q .non H', Q, fun _ _ => False, fun _ _ => False⟩ (L2.start N vs) H) : FnGX P w K mg base (k + 1) f fd ps sp := by
  obtain ⟨oc, od, kV, doc, pm, an, cdv, ct, osl, rfl, lk, hcd⟩ := F.ex
  refine ⟨len, fun A outer s H args us vs Q E hr hgd e0 hb r hsp => ?_⟩
  have hl : vs.length = ps.length := len _ _ _ _ hsp
  have kx : K.In s.heap := e0.mod.kin.keeps fun b o e => (e0.bs b o e).1
  have lm : s.heap.NoLimit := e0.mod.nolimit.keeps fun b o e => (e0.bs b o e).1
  have kinds : ∀ y ∈ ps.zip us, (defScope st).names.lookup y.1 = some .local ∨
      ((defScope st).names.lookup y.1 = some .cell ∧ ((cellsFrom (s.heap.objs.size + 1) (defScope st).names []).lookup y.1).isSome = true) := by
    rintro ⟨n, v⟩ hy
    rcases S.par n (List.of_mem_zip hy).1 with q | q
    · exact Or.inl q
    · exact Or.inr ⟨q, PySem.W.cellsFrom_some _ _ _ (.inl q)⟩
  refine codeAny_call_function hr.depth (kx _ _ lk) rfl S.co S.gen rfl (PySem.W.codeRec_of kx hcd) (hb _ _ _ _ ?_)
  refine wpAny_newFunctionEnv_cells S.kind kinds fun env he s1 hx => ?_
  cases he
  refine ⟨lm.keeps hx.toInCall.keep, codeAny_func ?_⟩
  have J := inv_start (CX := L2.CX P w) (E := E) S hr.hd e0 hl r hx
  refine wpAny_mono (hbody cdv A outer s H vs Q E (hr.deeper _) hgd hsp [] s1 J) (fun fl s' hs => ?_) fun e s' hs => hs
  have fin : ∀ {σ' : L2.St} {H' : Hp} {v : V} {u : Value},
      Inv (cxOf (L2.CX P w) P w K mg base N qual (defScope st) f cdv A outer s H E) [] σ' H' s' → RelV v u → Q v H' → CE outer P w H s Q u s' := by
    intro σ' H' v u I rv q
    exact ⟨v, H', I.os, I.bare, I.base, I.hok, rv, q⟩
  cases fl with
  | next =>
    obtain ⟨σ', H', I, q⟩ := hs
    exact fin (v := V.non) (u := Value.none) I rfl q
  | ret u =>
    obtain ⟨v, σ', H', I, rv, q⟩ := hs
    exact fin I rv q
  | brk => obtain ⟨_, _, _, q⟩ := hs; exact q.elim
  | cont => obtain ⟨_, _, _, q⟩ := hs; exact q.elim
/-! ## values in; a value or an exception out -/
inductive XO where
  | val (d : D)
  | exc (x : Xd)
  | bad
def Xd.im (x : Xd) : Bool := imAll (x.fs.map (·.2))
def runX (k n : Nat) (m : MS) (dl : List D) : XO := if dl.length = k then match m (startD n dl) [] with
  | .ok (.rt d) _ => if d.im = true then .val d else .bad
  | .ok (.nx _) _ => .val .non
  | .ok _ _ => .bad
  | .ex x _ _ => if x.im = true then .exc x else .bad
  | .bad => .bad
  else .bad
def Ext (H H' : Hp) : Prop := ∀ b o, H b = some o → H' b = some o
theorem Ext.im {H H' : Hp} (h : Ext H H') : ImmP H H' := fun b o e _ => h b o e
def spX (K : PySem.W.Frag) (mg : Str → Option Value) (G : List D → XO) : Sp := fun vs H Q E => ∃ dl θ, imAll dl = true ∧ Reps K θ H dl vs ∧ match G dl with
  | .val d => ∀ v H', Rep K [] H' d v → Ext H H' → Q v H'
  | .exc x => ∀ cls d H', XRep K mg [] H' x cls d → Ext H H' → E cls d H'
  | .bad => False
theorem rep_nil {θ : List Addr} {H : Hp} {d : D} {v : V} (h : d.im = true) (r : Rep K θ H d v) : Rep K [] H d v := by
  have := Reps.cutA (n := 0) [d] [v] (im_clA (by show (d.im && true) = true; rw [h]; rfl)) (mk_cons r mk_nil)
  rw [List.take_zero] at this
  obtain ⟨v1, vs', e, r1, _⟩ := reps_cons this
  cases e
  exact r1
theorem reps_nil {θ : List Addr} {H : Hp} {ds : List D} {vs : List V} (h : imAll ds = true) (r : Reps K θ H ds vs) : Reps K [] H ds vs := by
  have := Reps.cutA (n := 0) ds vs (im_clA h) r
  rwa [List.take_zero] at this
theorem xrep_nil {θ : List Addr} {H : Hp} {x : Xd} {cls : Value} {d : Option Addr} (h : x.im = true) (r : XRep K mg θ H x cls d) : XRep K mg [] H x cls d := by
  obtain ⟨C, a, b, r⟩ := r
  refine ⟨C, a, b, ?_⟩
  rcases r with r | ⟨dd, vs, e1, e2, e3⟩
  · exact .inl r
  · exact .inr ⟨dd, vs, e1, e2, reps_nil h e3⟩
theorem xrep_up {θ : List Addr} {H : Hp} {x : Xd} {cls : Value} {d : Option Addr} (r : XRep K mg [] H x cls d) : XRep K mg θ H x cls d := by
  obtain ⟨C, a, b, r⟩ := r
  refine ⟨C, a, b, ?_⟩
  rcases r with r | ⟨dd, vs, e1, e2, e3⟩
  · exact .inl r
  · exact .inr ⟨dd, vs, e1, e2, Reps.mono (Le.app [] θ) (ImmP.refl _) _ _ e3⟩
theorem sat_ext {B : Bs} {θ : List Addr} {ms : List Ob} {H H' : Hp} (S : Sat K B θ ms H) (k : Ext H H') : Sat K B θ ms H' where
  len := S.len
  nd := S.nd
  obs := fun j ob a h1 h2 => by
    have h := S.obs j ob a h1 h2
    obtain ⟨o, e, _⟩ := h.some
    exact h.keep (Le.refl _) k.im (by rw [e, k a o e])
  keep := fun b o h n => k _ _ (S.keep b o h n)
  new := S.new
theorem sat_nil {H : Hp} : Sat K ⟨H, []⟩ [] [] H where
  len := rfl
  nd := List.nodup_nil
  obs := fun j ob a h _ => by cases h
  keep := fun b o h _ => h
  new := fun a h => by cases h
theorem runX_len {k n : Nat} {m : MS} {dl : List D} (h : runX k n m dl ≠ .bad) : dl.length = k := Classical.byContradiction fun c => h (by unfold runX; rw [if_neg c])
theorem runX_val {k n : Nat} {m : MS} {dl : List D} {d : D} (h : runX k n m dl = .val d) : d.im = true := by
  unfold runX at h
  repeat' split at h
  all_goals first
    | (cases h; assumption)
    | (cases h; rfl)
    | cases h
theorem runX_exc {k n : Nat} {m : MS} {dl : List D} {x : Xd} (h : runX k n m dl = .exc x) : x.im = true := by
  unfold runX at h
  repeat' split at h
  all_goals first
    | (cases h; assumption)
    | cases h
theorem spX_good {G : List D → XO} {vs : List V} {H : Hp} {Q : VK} {E : XK} (h : spX K mg G vs H Q E) : ∃ dl θ, imAll dl = true ∧ Reps K θ H dl vs ∧ G dl ≠ .bad := by
  obtain ⟨dl, θ, a, b, c⟩ := h
  refine ⟨dl, θ, a, b, fun e => ?_⟩
  rw [e] at c
  exact c
theorem runX_wp {k n : Nat} {m : MS} {dl : List D} (hl : dl.length = k) (nb : runX k n m dl ≠ .bad) {W : Xd → Slots → List Ob → Prop} (hW : ∀ x, runX k n m dl = .exc x → ∀ ds ms, W x ds ms) :
    wpS (m (startD n dl) []) ⟨fun _ _ => runX k n m dl = .val .non, fun d _ => runX k n m dl = .val d, fun _ _ => False, fun _ _ => False⟩ W := by
  unfold runX at nb hW ⊢
  rw [if_pos hl] at nb hW ⊢
  generalize m (startD n dl) [] = r at nb hW ⊢
  cases r with
  | ok fl ms' =>
    cases fl with
    | rt d =>
      by_cases hd : d.im = true
      · simp only [wpS, wp, hd, if_true]
      · simp only [hd] at nb
        exact absurd rfl nb
    | nx ds' => rfl
    | _ => exact absurd rfl nb
  | ex x ds' ms' =>
    by_cases hd : x.im = true
    · exact hW x (by simp only [hd, if_true]) ds' ms'
    · simp only [hd] at nb
      exact absurd rfl nb
  | bad => exact absurd rfl nb
/-- a def that may raise, by its body -/
theorem fnX {x qual : Str} {st : Stmt} {f : Addr} {fd : FuncData} {N ps : List Str} {k : Nat} {m : MS} (F : Fun K x qual st f fd) (S : FnScope N ps (defScope st))
    (body : ∀ (cdv : Value) (A : Around) (outer : List Env) (s : Shared) (H : Hp) (E : XK), Room k (A.deeper (envOfC qual (defScope st) s.heap.objs.size f cdv)) → (A.deeper (envOfC qual (defScope st) s.heap.objs.size f cdv)).guards = some [] →
      SSs (cxOf (L2.CX P w) P w K mg base N qual (defScope st) f cdv A outer s H E) (defBody st) m) : FnGX P w K mg base (k + 1) f fd ps (spX K mg (runX ps.length N.length m)) := by
  refine fnGX_of F S (fun vs H Q E h => ?_) (fun cdv A outer s H vs Q E hr hgd h => ?_)
  · obtain ⟨dl, θ, _, r, nb⟩ := spX_good h
    rw [r.length, runX_len nb]
  · obtain ⟨dl, θ, hi, r, q⟩ := h
    have r0 : Reps K [] H dl vs := reps_nil hi r
    have ext : ∀ {ms' : List Ob} {θ' : List Addr} {H' : Hp}, Sat K ⟨H, []⟩ θ' ms' H' → Ext H H' := fun S b o e => S.keep b o e (by simp)
    have hl : dl.length = ps.length := by
      refine runX_len (m := m) (n := N.length) fun e => ?_
      rw [e] at q
      exact q
    have hb := (body cdv A outer s H E hr hgd).run ⟨H, []⟩ 0 (startD N.length dl) [] ⟨fun _ _ => runX ps.length N.length m dl = .val .non, fun d _ => runX ps.length N.length m dl = .val d, fun _ _ => False, fun _ _ => False⟩ ?_
    · refine (hb.run (L2.start N vs) H [] (Nat.le_refl _) sat_nil (Slr.start r0 N)).imp (fun σ' H' z => ?_) (fun v H' z => ?_) (fun σ' H' z => ?_) (fun σ' H' z => ?_)
      · obtain ⟨ds', ms', θ', L', im, t, S', e⟩ := z
        rw [e] at q
        exact q _ _ mk_non (ext S')
      · obtain ⟨d', ms', θ', r', im, t, S', e⟩ := z
        have hd := runX_val e
        rw [e] at q
        exact q _ _ (rep_nil hd r') (ext S')
      · obtain ⟨_, _, _, _, _, _, _, z⟩ := z; exact z
      · obtain ⟨_, _, _, _, _, _, _, z⟩ := z; exact z
    · refine runX_wp hl (fun e => ?_) fun x e ds' ms' => ?_
      · rw [e] at q
        exact q
      · have hxi := runX_exc e
        rw [e] at q
        exact (takes_of (E := E) rfl rfl rfl rfl).imp fun c d σ H' ⟨θ', L', S', xr⟩ => q c d H' (xrep_nil hxi xr) (ext S')
end
end
end VM

namespace VM
open PySem PySem.Spec PyProof.Rows L2 TL VL
open Classical
noncomputable section
structure DcX (P : Program) (w : World) (K : PySem.W.Frag) (mg : Str → Option Value) (base : Heap) (k : Nat) (x : Str) (ps : List Str) (G : List D → XO) : Prop where
  ex : ∃ (f : Addr) (fd : FuncData), FnGX P w K mg base k f fd ps (spX K mg G) ∧ mg x = some (.ref f) ∧ PySem.W.keepIn K (.ref f) = true ∧ Binds K fd ps []
@[simp] def callXK (G : List D → XO) (ds : Slots) (dl : List D) (m : List Ob) : Res D := if imAll dl = true then match G dl with
    | .val d => .ok d m
    | .exc x => .ex x ds m
    | .bad => .bad
  else .bad
@[simp] def callX (G : List D → XO) (as : MA) (ds : Slots) (ms : List Ob) : Res D := (as ds ms).bind (callXK G ds)
section
variable {X : Cx} {B : Bs} {ds : List (Option D)} {ms : List Ob} {Q : D → List Ob → Prop} {pos : Pos} {k : Nat} {x : Str} {ps : List Str} {G : List D → XO}
theorem runGX {pins : List (Addr × Obj)} {σ : L2.St} {θ : List Addr} {H : Hp} {s : Shared} {us : List Value} {vs : List V} {dl : List D} {f : Addr} {fd : FuncData}
    (F : FnGX X.prog X.w X.K X.mg X.base k f fd ps (spX X.K X.mg G)) (hr : Room k X.A) (hgd : X.A.guards = some []) (hb : Binds X.K fd ps [])
    (I : L2.Inv X pins σ H s) (r : Vals vs us) (rd : Reps X.K θ H dl vs) (L : Slr X.K θ H ds σ) (S : Sat X.K B θ ms H) (q : wp (callXK G ds dl ms) Q (XW X B)) :
    wpAny (model X.prog X.w) X.A (call (.ref f) us) (EP X pins σ (PV X.K B θ H Q)) X.xe s := by
  unfold callXK at q
  split at q
  case isFalse => exact q.elim
  rename_i hi
  have go : ∀ (E : XK), spX X.K X.mg G vs H (PV X.K B θ H Q) E → (∀ u s', L2.CX X.prog X.w X.stack H s E u s' → X.xe u s') → wpAny (model X.prog X.w) X.A (call (.ref f) us) (EP X pins σ (PV X.K B θ H Q)) X.xe s := fun E h hx => by
    have hl : us.length = ps.length := r.length.symm.trans (F.len _ _ _ _ h)
    have hbd := hb s us I.kIn (by rw [List.append_nil]; exact hl)
    rw [List.append_nil] at hbd
    refine wpAny_call (codeAny_mono (F.run X.A X.stack s H ⟨us, []⟩ us vs (PV X.K B θ H Q) E hr hgd I.env0 hbd r h) fun res s' hq => ?_)
    match res, hq with
    | .ok (.ret u), hq => exact I.after hq
    | .error e, hq => exact hx e s' hq
  cases hG : G dl with
  | val d =>
    rw [hG] at q
    refine go (fun _ _ _ => False) ⟨dl, θ, hi, rd, ?_⟩ fun u s' c => ?_
    · rw [hG]
      exact fun v H' rv ext => ⟨d, ms, [], by rw [List.append_nil]; exact Rep.mono (Le.app [] θ) (ImmP.refl _) _ _ rv, ext.im, by rw [List.append_nil]; exact sat_ext S ext, q⟩
    · obtain ⟨_, _, _, _, _, _, _, _, _, _, _, _, z⟩ := c
      exact z.elim
  | exc x =>
    rw [hG] at q
    have tk : Takes X _ := q
    refine go (fun cls d H' => ∃ θ, Slr X.K θ H' ds σ ∧ Sat X.K B θ ms H' ∧ XRep X.K X.mg θ H' x cls d) ⟨dl, θ, hi, rd, ?_⟩ fun u s' c => tk u s' (XE.of_call I (fun cls d H' h => h) c)
    rw [hG]
    exact fun cls d H' xr ext => ⟨θ, L.mono (Le.refl _) ext.im, sat_ext S ext, xrep_up xr⟩
  | bad => rw [hG] at q; exact q.elim
theorem s_callX {xp : Pos} {e : Expr} {es : List Expr} {as : MA} (D0 : DcX X.prog X.w X.K X.mg X.base k x ps G) (hr : Room k X.A) (hgd : X.A.guards = some []) (hg : Gl X x) (ha : SA X (e :: es) as)
    (hdb : (x == ("__debug__" : Str)) = false := by decide) (he : starEach (e :: es) X.env = (false, eval e X.env) :: starEach es X.env := by rfl) (hpl : (backTo pos (starEach es X.env)).any (·.1) = false := by rfl) : SE X (.Call (.Name x xp) (e :: es) [] pos) (callX G as) := ⟨fun B ds ms Q h => by
  obtain ⟨f, fd, F, hm, hk, hb⟩ := D0.ex
  have hA := ha.run B ds ms _ (wp_bind.mp h)
  exact .mk fun σ H θ S L pins s I => wpAny_Call_Name_kw (ld_glob I hg hm (PySem.W.callWith_K (h₀ := X.base) I.ok.mod.kin hk (thn (hA σ H θ S L pos pins s I) fun us s1 ⟨vs, H1, I1, r, dl, m, more, r1, im1, S1, q⟩ => ⟨I1.kIn, by
    have := runGX F hr hgd hb I1 r r1 (L.mono (Le.app _ _) im1) S1 q
    refine wpAny_mono this (fun u s' ⟨v, H', J, rv, d, m', more', rd, im2, S2, q2⟩ => ⟨v, H', J, rv, d, m', more ++ more', by rw [← List.append_assoc]; exact rd, im1.trans im2, by rw [← List.append_assoc]; exact S2, q2⟩) fun _ _ z => z⟩) he hpl) hdb)⟩
end
end
end VM

namespace VM
open PySem PySem.Spec PyProof.Rows L2 TL VL
open Classical
noncomputable section
/-! ## own classes of errors: __init__(self, f): Base.__init__(self, "..."); self.f = f -/
/-- the base class, a class of the program over ValueError without __init__ -/
structure BaseC (K : PySem.W.Frag) (C0 : Addr) : Prop where
  ty : PySem.W.typeIn K (.ref C0) = some (.type "type")
  rd : PySem.W.readsIn K C0 (.type "type") = true
  ga : PySem.W.specialIn K (.ref C0) "__getattribute__" = some (some (.builtin "type.__getattribute__"))
  at_ : PySem.W.findCls K (.ref C0) (.type "type") "__init__" = some (.val (.builtin "ValueError.__init__"))
section
variable {X : Cx} {e : Expr} {es : List Expr} {ta : TA} {x : Str} {C0 : Addr} {p1 p2 pos : Pos}
theorem pe_cinit {pl : Sem Bool} (hg : Gl X x) (hm : X.mg x = some (.ref C0)) (T0 : BaseC X.K C0) (ha : PA X (e :: es) ta) (hdb : (x == ("__debug__" : Str)) = false := by decide)
    (hc : eval (.Call (.Attribute (.Name x p1) "__init__" p2) (e :: es) [] pos) X.env = (do
      let ov ← eval (.Name x p1) X.env
      standAt p2.atName
      let (f, first) ← holding [ov] (getMethod ov "__init__" pl)
      callWith pos f first (backTo pos (starEach (e :: es) X.env)) (backToKw pos (keywordEach [] X.env))) := by rfl)
    (he : starEach (e :: es) X.env = (false, eval e X.env) :: starEach es X.env := by rfl) (hpl : (backTo pos (starEach es X.env)).any (·.1) = false := by rfl) :
    PE X (.Call (.Attribute (.Name x p1) "__init__" p2) (e :: es) [] pos) (tVeI X.K ta) := by
  refine ⟨fun pins s σ H Q I h => ?_⟩
  refine PySem.W.methodCall_KW (ld_glob I hg hm ?_ hdb) hc
  obtain ⟨m, fr⟩ := I.fr
  refine PySem.W.method_of_cls fr I.ok.mod.kin T0.ga (PySem.W.cls_val fr I.ok.mod.kin T0.ty T0.rd T0.at_ (by decide +kernel) ?_)
  show wpAny _ _ (callWith pos (Value.builtin "ValueError.__init__") [] (backTo pos (starEach (e :: es) X.env)) []) _ _ _
  refine PyProof.Rows.callWith_method1 (thn (ha.run pos pins _ σ H _ (I.tok _) h) fun us s1 ⟨vs, H1, I1, r1, a, C, ws, ev, hl, T, ea, q⟩ => ?_) he hpl
  subst ev
  cases r1 with
  | @cons _ u0 _ ur ra rw' =>
    obtain rfl : u0 = Value.ref a := ra
    have hlen : ur.length ≤ sizeLine := by
      rw [← Paired.length rw', sizeLine_eq]
      omega
    exact oinit_ok T I1 ea hlen fun s' J => ⟨.non, H1, J, rfl, q⟩
end
/-- what __init__ keeps -/
def spInit (K : PySem.W.Frag) (f : Str) : Sp := fun vs H Q _ => ∃ (a C : Addr) (v : V), vs = [.ref a, v] ∧ OexC K C ∧ PySem.W.findIn K (.ref C) f = some none ∧ H a = some (exo a C none) ∧
  ∀ dx, H dx = none → dx ≠ a → Q .non (upd (upd H dx (exd dx [(f, v)])) a (exo a C (some dx)))
section
variable {P : Program} {w : World} {K : PySem.W.Frag} {mg : Str → Option Value} {base : Heap} {x f : Str} {C0 : Addr}
theorem fn_init {qual : Str} {st : Stmt} {fI : Addr} {fd : FuncData} {k : Nat} {m : Str} (F : Fun K "__init__" qual st fI fd) (S : FnScope ["self", f] ["self", f] (defScope st))
    (body : ∀ (cdv : Value) (A : Around) (outer : List Env) (s : Shared) (H : Hp) (E : XK), PSs (cxOf CX0 P w K mg base ["self", f] qual (defScope st) fI cdv A outer s H E).nox (defBody st) (tSeq (tDrop (tVeI K (tCons (tVar 0) (tCons (tC (.str m)) tNil)))) (tOst K f (tVar 0) (tVar 1)))) :
    FnOk P w K mg base CX0 (k + 1) fI fd ["self", f] (spInit K f) := by
  refine F.ok S ?_ fun cdv A outer s H vs Q E hr h => ⟨_, body cdv A outer s H E, ?_⟩
  · rintro vs H Q E ⟨a, C, v, rfl, _⟩; rfl
  · obtain ⟨a, C, v, rfl, T, hno, ha, hq⟩ := h
    refine ⟨_, rfl, ?_⟩
    refine ⟨a, C, [.str m], rfl, by show 1 ≤ 1000; decide, T, ha, ?_⟩
    exact ⟨_, rfl, _, rfl, a, C, rfl, T, hno, .inl ⟨ha, fun dx h1 h2 => hq dx h1 h2⟩⟩
end
end
end VM

namespace VM
open PySem PySem.Spec PyProof.Rows L2 TL VL
open Classical
noncomputable section
/-! ## raise -/
/-- what is taken for sure -/
def weak (X : Cx) : WX := fun cls d σ H => ∀ u s', XE X (fun c' d' σ' H' => c' = cls ∧ d' = d ∧ σ' = σ ∧ H' = H) u s' → X.xe u s'
theorem takes_weak {X : Cx} : Takes X (weak X) := fun u s' ⟨a, B, sI, pins, σ, H, cls, d, e, I, nb, up, sky, na, os, ag, w⟩ =>
  w u s' ⟨a, B, sI, pins, σ, H, cls, d, e, I, nb, up, sky, na, os, ag, rfl, rfl, rfl, rfl⟩
theorem weak_of {X : Cx} {W : WX} (tk : Takes X W) {cls : Value} {d : Option Addr} {σ : L2.St} {H : Hp} (w : W cls d σ H) : weak X cls d σ H := fun u s' ⟨a, B, sI, pins, σ', H', c', d', e, I, nb, up, sky, na, os, ag, h1, h2, h3, h4⟩ => by
  subst h1; subst h2; subst h3; subst h4
  exact tk u s' ⟨a, B, sI, pins, σ', H', c', d', e, I, nb, up, sky, na, os, ag, w⟩
/-- a class of errors with one field -/
structure ErrC (P : Program) (w : World) (K : PySem.W.Frag) (mg : Str → Option Value) (base : Heap) (k : Nat) (c f : Str) : Prop where
  ex : ∃ (C fI : Addr) (fd : FuncData), mg c = some (.ref C) ∧ OexC K C ∧ PySem.W.findIn K (.ref C) "__init__" = some (some (.ref fI)) ∧ PySem.W.typeIn K (.ref fI) = some (.type "function") ∧
    FnOk P w K mg base CX0 k fI fd ["self", f] (spInit K f) ∧ Binds K fd ["self", f] [] ∧ PySem.W.findIn K (.ref C) f = some none
@[simp] def raiseK (c f : Str) (ds : Slots) (dl : List D) (m : List Ob) : Res Fl := match dl with
  | [d] => .ex ⟨c, [(f, d)]⟩ ds m
  | _ => .bad
@[simp] def raiseS (c f : Str) (as : MA) (ds : Slots) (ms : List Ob) : Res Fl := (as ds ms).bind (raiseK c f ds)
section
variable {X : Cx} {c f : Str} {k : Nat} {e : Expr} {es : List Expr} {as : MA} {p pos pos' : Pos}
theorem st_raise (hc : X.calm = true) (T : ErrC X.prog X.w X.K X.mg X.base k c f) (hr : Room (k + 1) X.A) (hg : Gl X c) (ha : SA X (e :: es) as)
    (hdb : (c == ("__debug__" : Str)) = false := by decide) (he : starEach (e :: es) X.env = (false, eval e X.env) :: starEach es X.env := by rfl) (hpl : (backTo pos (starEach es X.env)).any (·.1) = false := by rfl) :
    SS X (.Raise (some (.Call (.Name c p) (e :: es) [] pos)) none pos') (raiseS c f as) := ⟨fun B fl ds ms E h => by
  obtain ⟨C, fI, fd, hm, TC, iC, tI, F1, hb, hno⟩ := T.ex
  have hA : WA X B ds ms (e :: es) (fun dl m => wpS (raiseK c f ds dl m) E (XW X B)) := ha.run B ds ms _ (wp_bind.mp h)
  refine .mk fun σ H θ hfl S L => can_ps (ps_raise hc takes_weak (pmk_oex (X := X) (CX := CX0) (p := p) (pos := pos) (dvs := []) TC iC tI F1 hr hb .nil (fun _ _ _ _ _ _ _ z => z.elim) hg hm pa_can hdb he hpl)) ?_
  refine (hA σ H θ S L).mono fun vs H1 ⟨dl, m, more, r, im, S1, q⟩ => ?_
  replace q : wpS (raiseK c f ds dl m) E (XW X B) := q
  unfold raiseK at q
  split at q
  case h_2 => exact q.elim
  rename_i d
  have tk : Takes X _ := q
  obtain ⟨v, vs', e1, rv, rn⟩ := reps_cons r
  have e2 : vs' = [] := by
    have := rn.length
    exact List.length_eq_zero_iff.mp (by simpa using this)
  subst e2; subst e1
  refine ⟨by show 1 ≤ 1000; decide, fun a ha => ⟨a, C, v, rfl, TC, hno, upd_same, fun dx h1 h2 => ⟨rfl, dx, [(f, v)], upd_same, ?_, ?_, ?_⟩⟩⟩
  · rw [upd_ne h2, upd_same]
  · rw [upd_ne h2] at h1; exact h1
  · have hdx : H1 dx = none := by rw [upd_ne h2] at h1; exact h1
    have ext : Ext H1 (upd (del (upd (upd (upd H1 a (exo a C none)) dx (exd dx [(f, v)])) a (exo a C (some dx))) a) dx (.xd [(f, v)])) := fun b o hbo => by
      have n1 : b ≠ a := fun z => by rw [z, ha] at hbo; cases hbo
      have n2 : b ≠ dx := fun z => by rw [z, hdx] at hbo; cases hbo
      rw [upd_ne n2, del_ne n1, upd_ne n1, upd_ne n2, upd_ne n1]
      exact hbo
    refine weak_of tk ⟨θ ++ more, L.mono (Le.app _ _) (im.trans ext.im), sat_ext S1 ext, C, hm, rfl, .inr ⟨dx, [v], rfl, upd_same, ?_⟩⟩
    exact Reps.mono (Le.refl _) ext.im _ _ (mk_cons rv mk_nil)⟩
end
end
end VM

namespace VM
open PySem PySem.Spec PyProof.Rows L2 TL VL
open Classical
noncomputable section
/-! ## try, where nothing of the caller's is tracked: clauses 'except c as n: y = [tag, n.f]' -/
theorem sat_back {K : PySem.W.Frag} {B : Bs} {θ θ' : List Addr} {ms ms' : List Ob} {H H' : Hp} (S : Sat K B θ ms H) (S' : Sat K ⟨H, θ⟩ θ' ms' H') : Sat K B θ' ms' H' ∧ ImmP H H' := by
  refine ⟨S.rebase S', fun b o h i => ?_⟩
  refine S'.keep b o h fun z => ?_
  obtain ⟨u, e, hi⟩ := S.tracked z
  rw [h] at e; cases e
  rw [i] at hi; cases hi
structure Hd where
  c : Str
  i : Nat
  y : Nat
  tag : Str
  f : Str
def tryH (h : Hd) (x : Xd) (ds : Slots) (m : List Ob) : Res Fl := match x.fs.lookup h.f with
  | some d => if h.i < ds.length ∧ h.i ≠ h.y then .ok (.nx ((ds.set h.y (some (.obj m.length))).set h.i none)) (m ++ [.lst [.str h.tag, d]]) else .bad
  | none => .bad
def tryC : List Hd → Xd → Slots → List Ob → Res Fl
  | [], x, ds, m => .ex x ds m
  | h :: r, x, ds, m => if x.cls = h.c then tryH h x ds m else tryC r x ds m
def tryR (known : List Str) (hs : List Hd) (r : Res Fl) : Res Fl := match r with
  | .ex x ds m => if x.cls ∈ known then tryC hs x ds m else .bad
  | r => r
theorem lookup_zip {K : PySem.W.Frag} {θ : List Addr} {H : Hp} {f : Str} {d : D} : ∀ {fs : List (Str × D)} {vs : List V}, Reps K θ H (fs.map (·.2)) vs → fs.lookup f = some d → ∃ v, ((fs.map (·.1)).zip vs).lookup f = some v ∧ Rep K θ H d v
  | [], _, _, h => by cases h
  | (g, d0) :: r, vs, rp, h => by
    obtain ⟨v, vs', e, r1, r2⟩ := reps_cons rp
    subst e
    rw [List.lookup_cons] at h
    show ∃ w, List.lookup f ((g, v) :: (r.map (·.1)).zip vs') = some w ∧ _
    rw [List.lookup_cons]
    cases hg : f == g with
    | true => rw [hg] at h; cases h; exact ⟨v, rfl, r1⟩
    | false => rw [hg] at h; exact lookup_zip r2 h
inductive HdOk (X : Cx) : List ExceptHandler → List Hd → Prop
  | nil : HdOk X [] []
  | cons {h : Hd} {C : Addr} {n yn : Str} {np p1 p2 p3 p4 p5 p6 pos' : Pos} {j : Nat} {hds : List ExceptHandler} {l : List Hd} (hg : Gl X h.c) (hdb : (h.c == ("__debug__" : Str)) = false) (hm : X.mg h.c = some (.ref C)) (hi : X.N[h.i]? = some n) (hln : X.env.kindOf n = some .local)
      (T : XfC X.K C) (hno : PySem.W.findIn X.K (.ref C) h.f = some none)
      (hsu : ∀ (a : Addr) (oe : Obj) (cls : Value) (d : Option Addr) (pn : List (Addr × Obj)), Zc cls d oe → (∃ vs, oe.data = .fields vs) → PSs (X.suite a ((a, oe) :: pn)) [.Assign [.Name yn p1] (.List [.Constant (.str h.tag) j p2, .Attribute (.Name n p3) h.f p4] p5) p6]
        (tAsg (tLst (tCons (tC (.str h.tag)) (tCons (tXf a cls d C h.f (tVar h.i)) tNil))) (gName h.y))) (r : HdOk X hds l) :
      HdOk X (.ExceptHandler (some (.Name h.c np)) (some n) [.Assign [.Name yn p1] (.List [.Constant (.str h.tag) j p2, .Attribute (.Name n p3) h.f p4] p5) p6] pos' :: hds) (h :: l)
/-- the clauses as the rule wants them, and what they do -/
theorem HdOk.clauses {X : Cx} {known : List Str} {hds : List ExceptHandler} {l : List Hd} (h : HdOk X hds l)
    (hk : ∀ c ∈ known, ∀ g ∈ l, ∀ C C' : Addr, X.mg c = some (.ref C) → X.mg g.c = some (.ref C') → PySem.W.exmOne X.K (.ref C) (.ref C') = some (decide (c = g.c))) :
    ∃ cl, Clauses X hds cl ∧ ∀ {B : Bs} {E : En} {x : Xd} {ds : Slots} {m : List Ob} {ms0 : List Ob} {θ : List Addr} {H : Hp}, Sat X.K B θ ms0 H → x.cls ∈ known → wpS (tryC l x ds m) E (XW X B) →
      ∀ cls d σ' H', (∃ θ', Slr X.K θ' H' ds σ' ∧ Sat X.K ⟨H, θ⟩ θ' m H' ∧ XRep X.K X.mg θ' H' x cls d) → wClause X.K (weak X) (enOf X.K B 0 θ H E) cl cls d σ' H' := by
  induction h with
  | nil =>
    refine ⟨[], .nil, fun S hx w cls d σ' H' ⟨θ', L', S', xr⟩ => ?_⟩
    have tk : Takes X _ := w
    exact weak_of tk ⟨θ', L', (sat_back S S').1, xr⟩
  | @cons h C n yn np p1 p2 p3 p4 p5 p6 pos' j hds l hg hdb hm hi hln T hno hsu r ih =>
    obtain ⟨cl, c1, c2⟩ := ih fun c hc g hgl => hk c hc g (List.mem_cons_of_mem _ hgl)
    refine ⟨_, .as ⟨hg, hdb, .inl hm⟩ hi hln hsu c1, fun {B E x ds m ms0 θ H} S hx w cls d σ' H' ⟨θ', L', S', xr⟩ => ?_⟩
    obtain ⟨C', hm', rfl, xf⟩ := id xr
    refine ⟨_, hk x.cls hx h List.mem_cons_self C' C hm' hm, fun hb a ha => ?_, fun hb => ?_⟩
    · have hc : x.cls = h.c := of_decide_eq_true hb
      have eC : C' = C := by
        rw [hc, hm] at hm'
        exact ((Value.ref.injEq _ _).mp (Option.some.inj hm')).symm
      subst eC
      unfold tryC at w
      rw [if_pos hc] at w
      unfold tryH at w
      split at w
      case h_2 => exact w.elim
      rename_i d0 hd0
      split at w
      case isFalse => exact w.elim
      rename_i hil
      rcases xf with ⟨e0, _⟩ | ⟨dd, vs, rfl, hdd, rf⟩
      · rw [e0] at hd0; cases hd0
      obtain ⟨v, hv, rv⟩ := lookup_zip rf hd0
      have hlen : h.i < σ'.length := by rw [← L'.len]; exact hil.1
      obtain ⟨S2, im⟩ := sat_back S S'
      refine ⟨.ref a, List.getElem?_set_self hlen, rfl, rfl, dd, _, v, rfl, hdd, hv, by show 2 ≤ sizeLine; decide, fun p hp => ?_⟩
      have r1 : Reps X.K (θ' ++ [p]) (upd H' p (.lst [.str h.tag, v])) [.str h.tag, d0] [.str h.tag, v] := mk_cons mk_str (mk_cons (Rep.mono (Le.app _ _) (ImmP.new hp) _ _ rv) mk_nil)
      have S3 := S2.alloc (o := .lst [.str h.tag, v]) (ob := .lst [.str h.tag, d0]) hp ⟨_, upd_same, r1⟩
      refine ⟨_, _, θ' ++ [p], ?_, im.trans (ImmP.new hp), rfl, S3, w⟩
      have L2' := L'.mono (Le.app θ' [p]) (ImmP.new (o := .lst [.str h.tag, v]) hp)
      refine ⟨by rw [List.length_set, List.length_set, List.length_set, List.length_set, List.length_set]; exact L'.len, fun k e hk => ?_⟩
      by_cases k1 : k = h.i
      · subst k1
        by_cases hl2 : h.i < (ds.set h.y (some (.obj m.length))).length
        · rw [List.getElem?_set_self hl2] at hk; cases hk
        · rw [List.getElem?_eq_none (by rw [List.length_set]; omega)] at hk; cases hk
      · rw [List.getElem?_set_ne (Ne.symm k1)] at hk
        rw [List.getElem?_set_ne (Ne.symm k1)]
        by_cases k2 : k = h.y
        · subst k2
          by_cases hl2 : h.y < ds.length
          · rw [List.getElem?_set_self hl2] at hk
            cases hk
            rw [List.getElem?_set_self (by rw [List.length_set, ← L'.len]; exact hl2)]
            refine ⟨_, rfl, p, ?_, rfl⟩
            rw [← S'.len, List.getElem?_append_right (Nat.le_refl _), Nat.sub_self]; rfl
          · rw [List.getElem?_eq_none (by rw [List.length_set]; omega)] at hk; cases hk
        · rw [List.getElem?_set_ne (Ne.symm k2)] at hk
          rw [List.getElem?_set_ne (Ne.symm k2), List.getElem?_set_ne (Ne.symm k1)]
          exact L2'.at_ k e hk
    · have hc : ¬ x.cls = h.c := of_decide_eq_false hb
      unfold tryC at w
      rw [if_neg hc] at w
      exact c2 S hx w _ _ _ _ ⟨θ', L', S', xr⟩
def tryS (known : List Str) (hs : List Hd) (mb : MS) (ds : Slots) (ms : List Ob) : Res Fl := tryR known hs (mb ds ms)
theorem ws_try0 {X : Cx} {body : List Stmt} {mb : MS} {h₀ : ExceptHandler} {hds : List ExceptHandler} {l : List Hd} {known : List Str} {pos : Pos} (hs : X.stack = X.env :: X.outer) (hf : X.env.frame = some X.env.locals) (hN : X.N.Nodup)
    (hB : ∀ pn xe, SSs (X.tr pn xe) body mb) (hh : HdOk X (h₀ :: hds) l)
    (hk : ∀ c ∈ known, ∀ g ∈ l, ∀ C C' : Addr, X.mg c = some (.ref C) → X.mg g.c = some (.ref C') → PySem.W.exmOne X.K (.ref C) (.ref C') = some (decide (c = g.c)))
    {B : Bs} {ds : Slots} {ms : List Ob} {E : En} (h : wpS (tryS known l mb ds ms) E (XW X B)) : WS X B 0 ds ms (.Try body (h₀ :: hds) [] [] pos) E := by
  obtain ⟨cl, c1, c2⟩ := hh.clauses hk
  refine .mk fun σ H θ hfl S L => can_ps (ps_try_clauses (tb := fun W D σ H => ∀ pn xe, Takes (X.tr pn xe) W → tssCan (X.tr pn xe) body D σ H) hs hf hN takes_weak (fun W pn xe tk _ => ⟨fun pins s σ H D I h => h pn xe tk pins s I⟩) c1) ?_
  intro pn xe tk
  refine (((hB pn xe).run ⟨H, θ⟩ 0 ds ms E ?_).run σ H θ (Nat.zero_le _) S.here L).imp (fun σ' H' z => ?_) (fun v H' z => ?_) (fun σ' H' z => ?_) (fun σ' H' z => ?_)
  · unfold tryS at h
    generalize mb ds ms = r at h ⊢
    cases r with
    | ok f m => exact h
    | bad => exact h
    | ex x ds2 m2 =>
      unfold tryR at h
      simp only at h
      split at h
      · rename_i hx
        exact tk.imp fun c d σ' H' w => c2 S hx h c d σ' H' w
      · exact h.elim
  · obtain ⟨ds', ms', θ', L', im, t, S', q⟩ := z
    exact ⟨ds', ms', θ', L', im, t, S.rebase S', q⟩
  · obtain ⟨d', ms', θ', r', im, t, S', q⟩ := z
    exact ⟨d', ms', θ', r', im, t, S.rebase S', q⟩
  · obtain ⟨ds', ms', θ', L', im, t, S', q⟩ := z
    exact ⟨ds', ms', θ', L', im, t, S.rebase S', q⟩
  · obtain ⟨ds', ms', θ', L', im, t, S', q⟩ := z
    exact ⟨ds', ms', θ', L', im, t, S.rebase S', q⟩
/-- a block where nothing of the caller's is tracked -/
structure SS0 (X : Cx) (st : List Stmt) (m : MS) : Prop where
  run : ∀ B ds ms E, wpS (m ds ms) E (XW X B) → WSs X B 0 ds ms st E
theorem ss0_try {X : Cx} {body rest : List Stmt} {mb t : MS} {h₀ : ExceptHandler} {hds : List ExceptHandler} {l : List Hd} (known : List Str) {pos : Pos} (hs : X.stack = X.env :: X.outer) (hf : X.env.frame = some X.env.locals) (hN : X.N.Nodup)
    (hB : ∀ pn xe, SSs (X.tr pn xe) body mb) (hh : HdOk X (h₀ :: hds) l)
    (hk : ∀ c ∈ known, ∀ g ∈ l, ∀ C C' : Addr, X.mg c = some (.ref C) → X.mg g.c = some (.ref C') → PySem.W.exmOne X.K (.ref C) (.ref C') = some (decide (c = g.c)))
    (h2 : SSs X rest t) : SS0 X (.Try body (h₀ :: hds) [] [] pos :: rest) (sqS (tryS known l mb) t) := ⟨fun B ds ms E h =>
  wss_cons (ws_try0 hs hf hN hB hh hk (by
    have h := wpS_sq h
    unfold wpS at h ⊢
    refine wp_imp h fun f m h => ?_
    cases f with
    | nx ds' => exact h2.run B 0 ds' m E h
    | _ => exact h))⟩
section
variable {P : Program} {w : World} {K : PySem.W.Frag} {mg : Str → Option Value} {base : Heap} {x qual : Str} {st : Stmt} {f : Addr} {fd : FuncData} {N ps : List Str} {k : Nat} {m : MS}
theorem fnP0 (F : Fun K x qual st f fd) (S : FnScope N ps (defScope st))
    (body : ∀ (cdv : Value) (A : Around) (outer : List Env) (s : Shared) (H : Hp), Room k (A.deeper (envOfC qual (defScope st) s.heap.objs.size f cdv)) → (A.deeper (envOfC qual (defScope st) s.heap.objs.size f cdv)).guards = some [] →
      SS0 (cxOf CX0 P w K mg base N qual (defScope st) f cdv A outer s H E0).nox (defBody st) m) : FnG P w K mg base (k + 1) f fd ps (spOf K (pV (runP ps.length N.length m))) := by
  refine vfnP F S (fun dl v h => runP_len h) (fun dl v h => runP_im h) (fun cdv A outer s H hr hgd B dl v h => (body cdv A outer s H hr hgd).run B _ [] _ ?_)
  have hl := runP_len h
  unfold runP at h
  rw [if_pos hl] at h
  unfold wpS
  generalize m (startD N.length dl) [] = r at h ⊢
  cases r with
  | ok f ms => cases f with
    | rt d =>
      simp only at h
      split at h
      · cases h; rfl
      · cases h
    | nx ds => cases h; rfl
    | _ => cases h
  | _ => cases h
theorem fnL0 (F : Fun K x qual st f fd) (S : FnScope N ps (defScope st))
    (body : ∀ (cdv : Value) (A : Around) (outer : List Env) (s : Shared) (H : Hp), Room k (A.deeper (envOfC qual (defScope st) s.heap.objs.size f cdv)) → (A.deeper (envOfC qual (defScope st) s.heap.objs.size f cdv)).guards = some [] →
      SS0 (cxOf CX0 P w K mg base N qual (defScope st) f cdv A outer s H E0).nox (defBody st) m) : FnG P w K mg base (k + 1) f fd ps (spOf K (lV (runL ps.length N.length m))) := by
  refine vfnL F S (fun dl v h => runL_len h) (fun dl v h => runL_im h) (fun cdv A outer s H hr hgd B dl v h => (body cdv A outer s H hr hgd).run B _ [] _ ?_)
  have hl := runL_len h
  unfold runL at h
  rw [if_pos hl] at h
  unfold wpS
  generalize m (startD N.length dl) [] = r at h ⊢
  split at h
  · rename_i j ms
    split at h
    · rename_i xs hx
      split at h
      · cases h; exact ⟨j, rfl, hx⟩
      · cases h
    · cases h
  · cases h
end
/-- what is asked of a class that a clause names -/
structure HdC (K : PySem.W.Frag) (mg : Str → Option Value) (c f : Str) : Prop where
  ex : ∃ C : Addr, mg c = some (.ref C) ∧ XfC K C ∧ PySem.W.findIn K (.ref C) f = some none
/-- which class is caught by which -/
structure ExmP (K : PySem.W.Frag) (mg : Str → Option Value) (known hcs : List Str) : Prop where
  at_ : ∀ c ∈ known, ∀ g ∈ hcs, ∀ C C' : Addr, mg c = some (.ref C) → mg g = some (.ref C') → PySem.W.exmOne K (.ref C) (.ref C') = some (decide (c = g))
theorem ExmP.hds {X : Cx} {known : List Str} {l : List Hd} (h : ExmP X.K X.mg known (l.map (·.c))) : ∀ c ∈ known, ∀ g ∈ l, ∀ C C' : Addr, X.mg c = some (.ref C) → X.mg g.c = some (.ref C') → PySem.W.exmOne X.K (.ref C) (.ref C') = some (decide (c = g.c)) :=
  fun c hc g hg => h.at_ c hc g.c (List.mem_map_of_mem hg)
end
end VM

namespace VM
open PySem PySem.Spec PyProof.Rows L2 TL VL
open Classical
noncomputable section
/-! ## loops that are left early -/
section
variable {g : Gd} {tg : MG} {body : MS} {k : List Nat} {gc : Bool} {n : Nat}
/-- all items ahead of the i-th one go on; at the i-th one something else comes -/
theorem forL_at {r : Res Fl} (I : Slots → List Ob → Prop) (hr : ∀ ds m, r ≠ .ok (.nx ds) m) (hr2 : ∀ ds m, r ≠ .ok (.ct ds) m) (hr3 : ∀ ds m, r ≠ .ok (.bk ds) m) (hg : ∀ ds m, I ds m → gOk g m) : ∀ (items : List D) (i : Nat) (d : D) (ds : Slots) (m : List Ob), items[i]? = some d → I ds m →
    (∀ j d', j < i → items[j]? = some d' → ∀ ds m, I ds m → ∃ ds2 m2, turn tg body d' ds m = .ok (.nx ds2) m2 ∧ I (turnEnd k gc n ds2 m2).1 (turnEnd k gc n ds2 m2).2) →
    (∀ ds m, I ds m → turn tg body d ds m = r) → forL g tg body k gc n items ds m = r
  | [], i, d, ds, m, hi, _, _, _ => by simp at hi
  | e :: l, 0, d, ds, m, hi, hI, _, last => by
    cases hi
    rw [forL_cons (hg ds m hI), last ds m hI]
    cases r with
    | bad => rfl
    | ex x d m => rfl
    | ok f m => cases f with
      | nx ds => exact absurd rfl (hr ds m)
      | ct ds => exact absurd rfl (hr2 ds m)
      | bk ds => exact absurd rfl (hr3 ds m)
      | rt d => rfl
  | e :: l, i + 1, d, ds, m, hi, hI, step, last => by
    obtain ⟨ds2, m2, e1, e2⟩ := step 0 e (Nat.succ_pos i) rfl ds m hI
    rw [forL_cons (hg ds m hI), e1, bind_ok]
    exact forL_at I hr hr2 hr3 hg l i d _ _ (by simpa using hi) e2 (fun j d' hj hd => step (j + 1) d' (Nat.succ_lt_succ hj) (by simpa using hd)) last
/-- the same, where what comes leaves slots and a store of its own -/
theorem forL_ex {x : Xd} (I : Slots → List Ob → Prop) (hg : ∀ ds m, I ds m → gOk g m) : ∀ (items : List D) (i : Nat) (d : D) (ds : Slots) (m : List Ob), items[i]? = some d → I ds m →
    (∀ j d', j < i → items[j]? = some d' → ∀ ds m, I ds m → ∃ ds2 m2, turn tg body d' ds m = .ok (.nx ds2) m2 ∧ I (turnEnd k gc n ds2 m2).1 (turnEnd k gc n ds2 m2).2) →
    (∀ ds m, I ds m → ∃ ds2 m2, turn tg body d ds m = .ex x ds2 m2) → ∃ ds2 m2, forL g tg body k gc n items ds m = .ex x ds2 m2
  | [], i, d, ds, m, hi, _, _, _ => by simp at hi
  | e :: l, 0, d, ds, m, hi, hI, _, last => by
    cases hi
    obtain ⟨ds2, m2, e⟩ := last ds m hI
    exact ⟨ds2, m2, by rw [forL_cons (hg ds m hI), e]; rfl⟩
  | e :: l, i + 1, d, ds, m, hi, hI, step, last => by
    obtain ⟨ds2, m2, e1, e2⟩ := step 0 e (Nat.succ_pos i) rfl ds m hI
    obtain ⟨ds3, m3, e3⟩ := forL_ex I hg l i d _ _ (by simpa using hi) e2 (fun j d' hj hd => step (j + 1) d' (Nat.succ_lt_succ hj) (by simpa using hd)) last
    exact ⟨ds3, m3, by rw [forL_cons (hg ds m hI), e1, bind_ok]; exact e3⟩
theorem forL_rt {r : D} (I : Slots → List Ob → Prop) (hg : ∀ ds m, I ds m → gOk g m) : ∀ (items : List D) (i : Nat) (d : D) (ds : Slots) (m : List Ob), items[i]? = some d → I ds m →
    (∀ j d', j < i → items[j]? = some d' → ∀ ds m, I ds m → ∃ ds2 m2, turn tg body d' ds m = .ok (.nx ds2) m2 ∧ I (turnEnd k gc n ds2 m2).1 (turnEnd k gc n ds2 m2).2) →
    (∀ ds m, I ds m → ∃ m2, turn tg body d ds m = .ok (.rt r) m2) → ∃ m2, forL g tg body k gc n items ds m = .ok (.rt r) m2
  | [], i, d, ds, m, hi, _, _, _ => by simp at hi
  | e :: l, 0, d, ds, m, hi, hI, _, last => by
    cases hi
    obtain ⟨m2, e⟩ := last ds m hI
    exact ⟨m2, by rw [forL_cons (hg ds m hI), e]; rfl⟩
  | e :: l, i + 1, d, ds, m, hi, hI, step, last => by
    obtain ⟨ds2, m2, e1, e2⟩ := step 0 e (Nat.succ_pos i) rfl ds m hI
    obtain ⟨m3, e3⟩ := forL_rt I hg l i d _ _ (by simpa using hi) e2 (fun j d' hj hd => step (j + 1) d' (Nat.succ_lt_succ hj) (by simpa using hd)) last
    exact ⟨m3, by rw [forL_cons (hg ds m hI), e1, bind_ok]; exact e3⟩
/-- all items go on -/
theorem forL_go (I : Slots → List Ob → Prop) (hg : ∀ ds m, I ds m → gOk g m) (items : List D) (ds : Slots) (m : List Ob) (hI : I ds m)
    (step : ∀ d, d ∈ items → ∀ ds m, I ds m → ∃ ds2 m2, turn tg body d ds m = .ok (.nx ds2) m2 ∧ I (turnEnd k gc n ds2 m2).1 (turnEnd k gc n ds2 m2).2) : ∃ ds2 m2, forL g tg body k gc n items ds m = .ok (.nx ds2) m2 ∧ I ds2 m2 :=
  forL_inv (fun _ => I) items 0 ds m (fun _ => hg) hI fun j d ds m hj hI => step d (List.mem_of_getElem? hj) ds m hI
end
theorem cutD_map {α : Type} (f : α → D) (l : List α) (lo hi : Option Int) : VL.cutD (l.map f) lo hi = (cutN l lo hi).map f := by
  rw [VL.cutD_eq]; unfold cutN; rw [List.length_map, List.map_take, List.map_drop]
theorem cutN_mem {α : Type} {l : List α} {lo hi : Option Int} {a : α} (h : a ∈ cutN l lo hi) : a ∈ l := List.mem_of_mem_drop (List.mem_of_mem_take h)
theorem cutN_le {α : Type} (l : List α) (lo hi : Option Int) : (cutN l lo hi).length ≤ l.length := by
  unfold cutN; rw [List.length_take, List.length_drop]; omega
theorem enumD_get (xs : List D) (j : Nat) : (enumD xs)[j]? = xs[j]?.map fun x => .tup [.int (j : Nat), x] := by
  unfold enumD
  rw [List.getElem?_zipWith]
  by_cases h : j < xs.length
  · rw [List.getElem?_range h, List.getElem?_eq_getElem h]; rfl
  · rw [List.getElem?_eq_none (Nat.le_of_not_lt h)]
    cases (List.range xs.length)[j]? <;> rfl
theorem enumD_len (xs : List D) : (enumD xs).length = xs.length := by unfold enumD; simp
theorem mem_enumD {xs : List D} {d : D} (h : d ∈ enumD xs) : ∃ (i : Nat) (r : D), xs[i]? = some r ∧ d = .tup [.int i, r] := by
  obtain ⟨j, hj⟩ := List.getElem?_of_mem h
  rw [enumD_get] at hj
  obtain ⟨x, e1, e2⟩ := Option.map_eq_some_iff.mp hj
  exact ⟨j, x, e1, e2.symm⟩
theorem spl_ne {Y : List Nat} : ∀ (l : List Nat) (k : Nat) (a : List Nat), spl Y k a l ≠ []
  | [], k, a => by cases k <;> simp [spl]
  | c :: l, 0, a => by
    unfold spl
    split
    · simp
    · exact spl_ne l _ _
  | c :: l, k + 1, a => by
    unfold spl
    exact spl_ne l _ _
theorem split_ne {x y : Str} (hy : tl y ≠ []) (hk : y.cps.all (· < 256) = true) : Txt.split x y ≠ [] := fun e => by
  have := split_spl x y hy (kind_ok hk)
  rw [e] at this
  exact spl_ne _ _ _ this.symm
theorem split_cons {x y : Str} (hy : tl y ≠ [] := by decide +kernel) (hk : y.cps.all (· < 256) = true := by decide +kernel) : ∃ a l, Txt.split x y = a :: l := by
  cases h : Txt.split x y with
  | nil => exact absurd h (split_ne hy hk)
  | cons a l => exact ⟨a, l, rfl⟩
/-! ## a list from its end, held fast -/
@[simp] def revLRK (n : Nat) (d : D) (m : List Ob) : Res D := match lstOf m d with
  | some xs => if imAll xs = true ∧ n ≤ m.length then .ok (.rol xs.reverse) m else .bad
  | none => .bad
@[simp] def revLR (a : ME) (ds : Slots) (ms : List Ob) : Res D := (a ds ms).bind (revLRK ms.length)
@[simp] theorem imAll_reverse (xs : List D) : imAll xs.reverse = imAll xs := by
  rw [Bool.eq_iff_iff, imAll_iff, imAll_iff]
  exact ⟨fun h d hd => h d (List.mem_reverse.mpr hd), fun h d hd => h d (List.mem_reverse.mp hd)⟩
theorem s_revLR {X : Cx} {a : Expr} {pos : Pos} {k : Nat} {p1 p2 p3 : Pos} {m : ME} (h1 : SE X a m) : SE X (.Subscript a (.Slice none none (some (.UnaryOp .USub (.Constant (.int 1) k p1) p2)) p3) pos) (revLR m) := ⟨fun B ds ms Q h =>
  we_frzL (WE.pe (pe_revL pe_can) fun σ H θ S L => (h1.run B ds ms _ (wp_bind.mp h)).bind S L fun d m v H1 more q r im S1 L1 => by
    unfold revLRK at q
    split at q
    · rename_i xs hx
      split at q
      · rename_i c
        obtain ⟨p, vs, rfl, s, rs⟩ := lst_rep hx S1 r
        exact ⟨p, vs, rfl, s, fun l hl => (pv_lst S1 rs.reverse hl ⟨m, xs.reverse, rfl, rfl, c.2, sat_clos S1, by rw [imAll_reverse]; exact c.1, q⟩).trans im⟩
      · exact q.elim
    · exact q.elim)⟩
end
end VM

namespace VM
open PySem PySem.Spec PyProof.Rows L2 TL VL
open Classical
noncomputable section
/-! ## how long texts are that are joined and split -/
def costS (l : List Str) : Nat := (l.map fun s => s.length + 1).sum
@[simp] theorem cost_nil : costS [] = 0 := rfl
@[simp] theorem cost_cons (s : Str) (l : List Str) : costS (s :: l) = s.length + 1 + costS l := rfl
@[simp] theorem cost_app (a b : List Str) : costS (a ++ b) = costS a + costS b := by
  induction a with
  | nil => simp
  | cons s a ih => rw [List.cons_append, cost_cons, cost_cons, ih]; omega
theorem cost_sub {a b : List Str} (h : a.Sublist b) : costS a ≤ costS b := by
  induction h with
  | slnil => exact Nat.le_refl _
  | cons s _ ih => rw [cost_cons]; omega
  | cons_cons s _ ih => rw [cost_cons, cost_cons]; omega
theorem cost_cut (l : List Str) (lo hi : Option Int) : costS (cutN l lo hi) ≤ costS l := cost_sub ((List.take_sublist _ _).trans (List.drop_sublist _ _))
@[simp] theorem cost_rev (l : List Str) : costS l.reverse = costS l := by
  induction l with
  | nil => rfl
  | cons s l ih => rw [List.reverse_cons, cost_app, ih, cost_cons, cost_cons, cost_nil]; omega
theorem cost_mem {s : Str} {l : List Str} (h : s ∈ l) : s.length + 1 ≤ costS l := by
  have := cost_sub (List.singleton_sublist.mpr h)
  simpa using this
theorem cost_len (l : List Str) : l.length ≤ costS l := by
  induction l with
  | nil => exact Nat.le_refl _
  | cons s l ih => rw [List.length_cons, cost_cons]; omega
theorem cost_join {y : Str} (hy : (tl y).length = 1) : ∀ l : List Str, l ≠ [] → (Txt.join y l).length + 1 = costS l
  | [], h => absurd rfl h
  | [s], _ => by
    rw [← tl_len, join_tl]
    show (tl s).length + 1 = _
    rw [tl_len]; rfl
  | s :: t :: r, _ => by
    have ih := cost_join hy (t :: r) (by simp)
    rw [← tl_len, join_tl] at ih ⊢
    show (tl s ++ (tl y ++ joinL (tl y) ((t :: r).map tl))).length + 1 = _
    rw [List.length_append, List.length_append, hy, tl_len, cost_cons]
    omega
theorem cost_join_le {y : Str} (hy : (tl y).length = 1) (l : List Str) : (Txt.join y l).length ≤ costS l := by
  by_cases h : l = []
  · subst h
    rw [← tl_len, join_tl]; exact Nat.zero_le _
  · have := cost_join hy l h
    omega
theorem cost_split {x y : Str} (hy : (tl y).length = 1) (hk : y.cps.all (· < 256) = true) : costS (Txt.split x y) = x.length + 1 := by
  have e := PySem.StrLaws.join_split x y
  have hne := split_ne (x := x) (y := y) (fun e => by rw [e] at hy; cases hy) hk
  rw [← cost_join hy _ hne, join_eq, e]
theorem cost_sum (l : List Str) : (l.map (·.length)).sum + l.length = costS l := by
  induction l with
  | nil => rfl
  | cons s l ih => rw [List.map_cons, List.sum_cons, List.length_cons, cost_cons]; omega
theorem nl1 : (tl "\n").length = 1 := by decide +kernel
theorem sp1 : (tl " ").length = 1 := by decide +kernel
theorem sum_nl (l : List Str) : (l.map (·.length)).sum + l.length * (Str.ofString "\n").length = costS l := by
  have e : (Str.ofString "\n").length = 1 := by decide +kernel
  rw [e, Nat.mul_one, cost_sum]
theorem sum_sp (l : List Str) : (l.map (·.length)).sum + l.length * (Str.ofString " ").length = costS l := by
  have e : (Str.ofString " ").length = 1 := by decide +kernel
  rw [e, Nat.mul_one, cost_sum]
/-- the texts of a list, joined -/
theorem join_nl {m : List Ob} {l : List Str} (h : costS l ≤ 16777216) : mJoin (.str "\n") [.rol (l.map D.str)] m = some (.str (Txt.join "\n" l), m) := by
  have := sum_nl l
  simp [mJoin]; omega
theorem join_sp {m : List Ob} {l : List Str} (h : costS l ≤ 16777216) : mJoin (.str " ") [.rol (l.map D.str)] m = some (.str (Txt.join " " l), m) := by
  have := sum_sp l
  simp [mJoin]; omega

/-! ## what repr takes: by sums -/
theorem weight_sum {f : D → Nat} : ∀ {ds : List D}, (∀ d ∈ ds, (pyD d).weight ≤ f d) → PyData.weightAll (pyAll ds) ≤ (ds.map fun d => f d + 1).sum
  | [], _ => Nat.zero_le _
  | d :: ds, h => by
    have h1 := h d List.mem_cons_self
    have h2 := weight_sum (f := f) (ds := ds) fun x hx => h x (List.mem_cons_of_mem _ hx)
    unfold pyAll
    show PyData.weight _ + 1 + PyData.weightAll _ ≤ _
    rw [List.map_cons, List.sum_cons]; omega
theorem sum_mem {l : List Nat} {n : Nat} (h : n ∈ l) : n ≤ l.sum := by
  induction l with
  | nil => cases h
  | cons a l ih =>
    rw [List.sum_cons]
    rcases List.mem_cons.mp h with rfl | h
    · omega
    · have := ih h; omega
theorem sh_tupS {ds : List D} {k : Nat} (f : D → Nat) (h : ∀ d ∈ ds, Sh d k (f d)) : Sh (.tup ds) (k + 1) ((ds.map fun d => f d + 1).sum) := by
  have hu : ∀ d ∈ ds, Sh d k ((ds.map f).sum) := fun d hd => (h d hd).mono (Nat.le_refl _) (sum_mem (List.mem_map_of_mem hd))
  obtain ⟨a, b, c, e, g, _, l⟩ := shAll hu
  exact ⟨fun ms => .tup (a ms), b, c, Nat.succ_le_succ e, g, weight_sum fun d hd => (h d hd).wt, l⟩
theorem sh_rolS {ds : List D} {k : Nat} (f : D → Nat) (h : ∀ d ∈ ds, Sh d k (f d)) : Sh (.rol ds) (k + 1) ((ds.map fun d => f d + 1).sum) := by
  have hu : ∀ d ∈ ds, Sh d k ((ds.map f).sum) := fun d hd => (h d hd).mono (Nat.le_refl _) (sum_mem (List.mem_map_of_mem hd))
  obtain ⟨a, b, c, e, g, _, l⟩ := shAll hu
  exact ⟨fun ms => .rol (a ms), b, c, Nat.succ_le_succ e, g, weight_sum fun d hd => (h d hd).wt, l⟩
/-- over what is made of xs -/
theorem sh_tupM {α : Type} {xs : List α} {g : α → D} {k : Nat} (f : α → Nat) (h : ∀ a ∈ xs, Sh (g a) k (f a)) : Sh (.tup (xs.map g)) (k + 1) ((xs.map fun a => f a + 1).sum) := by
  have hu : ∀ d ∈ xs.map g, Sh d k ((xs.map f).sum) := fun d hd => by
    obtain ⟨a, ha, rfl⟩ := List.mem_map.mp hd
    exact (h a ha).mono (Nat.le_refl _) (sum_mem (List.mem_map_of_mem ha))
  obtain ⟨a, b, c, e, g', wt, l⟩ := shAll hu
  refine ⟨fun ms => .tup (a ms), b, c, Nat.succ_le_succ e, g', ?_, l⟩
  show PyData.weightAll (pyAll _) ≤ _
  clear a b c e g' l hu wt
  induction xs with
  | nil => exact Nat.zero_le _
  | cons x xs ih =>
    have h1 := (h x List.mem_cons_self).wt
    have h2 := ih fun a ha => h a (List.mem_cons_of_mem _ ha)
    rw [List.map_cons, List.map_cons, List.sum_cons]
    unfold pyAll
    show PyData.weight _ + 1 + PyData.weightAll _ ≤ _
    omega
theorem sum_mul_le {α : Type} {xs : List α} {f g : α → Nat} {c : Nat} (h : ∀ a ∈ xs, f a ≤ c * g a) : (xs.map f).sum ≤ c * (xs.map g).sum := by
  induction xs with
  | nil => exact Nat.le_refl _
  | cons x xs ih =>
    have h1 := h x List.mem_cons_self
    have h2 := ih fun a ha => h a (List.mem_cons_of_mem _ ha)
    rw [List.map_cons, List.map_cons, List.sum_cons, List.sum_cons, Nat.mul_add]
    omega
/-! ## a comparison's text is short -/
theorem numS_two {n : Nat} (h : n < 100) : (numS n).length ≤ 2 := by
  have key : ∀ n ∈ List.range 100, (numS n).length ≤ 2 := by decide +kernel
  exact key n (List.mem_range.mpr h)
theorem line_cost {r : List Nat} {v : Int} (h : ∀ n ∈ r, n < 100) (hl : r.length ≤ 15) : (lineS r v).length ≤ 55 := by
  unfold lineS
  have := cost_join sp1 (partsS r v) (by simp [partsS])
  have h2 : costS (r.map numS) ≤ 3 * r.length := by
    clear this
    clear hl
    induction r with
    | nil => exact Nat.le_refl _
    | cons n r ih =>
      have h1 := numS_two (h n List.mem_cons_self)
      have h2 := ih fun m hm => h m (List.mem_cons_of_mem _ hm)
      rw [List.map_cons, cost_cons, List.length_cons]; omega
  unfold partsS at this ⊢
  rw [cost_cons, cost_app, cost_cons, cost_nil, wordS_len] at this
  have h3 : (Str.ofString "state").length = 5 := by decide +kernel
  rw [h3] at this
  omega
theorem text_cost {c : Cmp} (ok : WrOk c) (h : c.rows.length ≤ 100) : (textS c).length ≤ 11 + 56 * c.rows.length := by
  unfold textS
  have h1 := cost_join nl1 (linesS c) (by simp [linesS])
  have h2 : costS ((c.rows.zip c.marks).map fun p => lineS p.1 p.2) ≤ 56 * (c.rows.zip c.marks).length := by
    have : ∀ p ∈ c.rows.zip c.marks, (lineS p.1 p.2).length ≤ 55 := fun p hp => by
      have hr := (List.of_mem_zip hp).1
      exact line_cost (fun n hn => Nat.lt_of_lt_of_le (ok.ok.in_ _ hr n hn) h) (ok.row _ hr).len
    generalize c.rows.zip c.marks = z at this
    clear h1
    induction z with
    | nil => exact Nat.le_refl _
    | cons p z ih =>
      have h1 := this p List.mem_cons_self
      have h2 := ih fun q hq => this q (List.mem_cons_of_mem _ hq)
      rw [List.map_cons, cost_cons, List.length_cons]; omega
  rw [zip_ne ok.ok] at h2
  have h3 := head_len c.L
  unfold linesS at h1 ⊢
  rw [cost_cons] at h1
  omega
end
end VM

namespace VM
open PySem PySem.Spec PyProof.Rows L2 TL VL
open Classical
noncomputable section
/-! ## statement by statement -/
section
variable {s t u : MS} {e a b : ME} {c : MT} {ds ds' : Slots} {ms m' m2 : List Ob} {d d2 : D} {i j : Nat} {r : Res Fl}
theorem sq_of (h : s ds ms = .ok (.nx ds') m') (h2 : t ds' m' = r) : sqS s t ds ms = r := by
  show (s ds ms).bind (sqK t) = r
  rw [h, bind_ok]; exact h2
theorem sq_rt (h : s ds ms = .ok (.rt d) m') : sqS s t ds ms = .ok (.rt d) m' := by
  show (s ds ms).bind (sqK t) = _
  rw [h, bind_ok]; rfl
theorem sq_ex {x : Xd} (h : s ds ms = .ex x ds' m') : sqS s t ds ms = .ex x ds' m' := by
  show (s ds ms).bind (sqK t) = _
  rw [h]; rfl
theorem set_of (h : e ds ms = .ok d m') : setS i e ds ms = .ok (.nx (ds.set i (some d))) m' := by
  show (e ds ms).bind (setK i ds) = _
  rw [h, bind_ok]; rfl
theorem sq_set (h : e ds ms = .ok d m') (h2 : t (ds.set i (some d)) m' = r) : sqS (setS i e) t ds ms = r := sq_of (set_of h) h2
theorem par_of (h1 : a ds ms = .ok d m') (h2 : b ds m' = .ok d2 m2) : parS i j a b ds ms = .ok (.nx ((ds.set i (some d)).set j (some d2))) m2 := by
  show (a ds ms).bind (parK i j b ds) = _
  rw [h1, bind_ok]
  show (b ds m').bind (parK2 i j ds d) = _
  rw [h2, bind_ok]; rfl
theorem sq_par (h1 : a ds ms = .ok d m') (h2 : b ds m' = .ok d2 m2) (h3 : t ((ds.set i (some d)).set j (some d2)) m2 = r) : sqS (parS i j a b) t ds ms = r := sq_of (par_of h1 h2) h3
theorem expr_of (h : e ds ms = .ok d m') : exprS e ds ms = .ok (.nx ds) m' := by
  show (e ds ms).bind (exprK ds) = _
  rw [h, bind_ok]; rfl
theorem sq_expr (h : e ds ms = .ok d m') (h2 : t ds m' = r) : sqS (exprS e) t ds ms = r := sq_of (expr_of h) h2
theorem asg_of {g : MG} (h : e ds ms = .ok d m') (h2 : g d ds m' = .ok ds' m2) : asgS g e ds ms = .ok (.nx ds') m2 := by
  show (e ds ms).bind (asgK g ds) = _
  rw [h, bind_ok]
  show (g d ds m').bind asgK2 = _
  rw [h2, bind_ok]; rfl
theorem sq_asg {g : MG} (h : e ds ms = .ok d m') (h2 : g d ds m' = .ok ds' m2) (h3 : t ds' m2 = r) : sqS (asgS g e) t ds ms = r := sq_of (asg_of h h2) h3
theorem ret_of (h : e ds ms = .ok d m') : retS e ds ms = .ok (.rt d) m' := by
  show (e ds ms).bind retK = _
  rw [h, bind_ok]; rfl
theorem if_t (h : c ds ms = .ok true m') (h2 : s ds m' = r) : ifS c s t ds ms = r := by
  show (c ds ms).bind (ifK s t ds) = _
  rw [h, bind_ok]; exact h2
theorem if_f (h : c ds ms = .ok false m') (h2 : t ds m' = r) : ifS c s t ds ms = r := by
  show (c ds ms).bind (ifK s t ds) = _
  rw [h, bind_ok]; exact h2
/-- a test without an else part that fails -/
theorem sq_no (h : c ds ms = .ok false m') (h2 : t ds m' = r) : sqS (ifS c s skipS) t ds ms = r := sq_of (if_f h rfl) h2
/-- a test that holds, with a return -/
theorem sq_yes (h : c ds ms = .ok true m') (h2 : s ds m' = .ok (.rt d) m2) : sqS (ifS c s u) t ds ms = .ok (.rt d) m2 := sq_rt (if_t h h2)
end
section
variable {k n : Nat} {m : MS} {dl : List D} {q q' : Dk} {d : D} {ms : List Ob} {ds : Slots}
theorem runK_rt (hl : dl.length + 1 = k) (h : m (startD n (.obj 1 :: dl)) (dkS q) = .ok (.rt d) ms) (hd : d.im = true) (hq : dkOf ms = some q') : runK k n m dl q = some (d, q') := by
  unfold runK
  rw [if_pos hl, h]
  show (if d.im = true then (dkOf ms).map fun q' => (d, q') else none) = _
  rw [if_pos hd, hq]; rfl
theorem runP_rt (hl : dl.length = k) (h : m (startD n dl) [] = .ok (.rt d) ms) (hd : d.im = true) : runP k n m dl = some d := by
  unfold runP
  rw [if_pos hl, h]
  show (if d.im = true then some d else none) = _
  rw [if_pos hd]
theorem runL_rt {j : Nat} {xs : List D} (hl : dl.length = k) (h : m (startD n dl) [] = .ok (.rt (.obj j)) ms) (hj : ms[j]? = some (.lst xs)) (hd : imAll xs = true) : runL k n m dl = some xs := by
  unfold runL
  rw [if_pos hl, h]
  show (match ms[j]? with
      | some (.lst xs) => if imAll xs = true then some xs else none
      | _ => none) = _
  rw [hj]
  show (if imAll xs = true then some xs else none) = _
  rw [if_pos hd]
theorem runA_rt (hl : dl.length = k) (h : m (startD n dl) ms = .ok (.rt d) m2) : runA k n m dl ms = .ok d m2 := by
  unfold runA
  rw [if_pos hl, h, bind_ok]
theorem runX_val_of (hl : dl.length = k) (h : m (startD n dl) [] = .ok (.rt d) ms) (hd : d.im = true) : runX k n m dl = .val d := by
  unfold runX
  rw [if_pos hl, h]
  show (if d.im = true then XO.val d else .bad) = _
  rw [if_pos hd]
theorem runX_exc_of {x : Xd} (hl : dl.length = k) (h : m (startD n dl) [] = .ex x ds ms) (hd : x.im = true) : runX k n m dl = .exc x := by
  unfold runX
  rw [if_pos hl, h]
  show (if x.im = true then XO.exc x else .bad) = _
  rw [if_pos hd]
end
/-! ## conditions about sizes: simp (disch := omega) -/
theorem if_leN {α : Type} {a b : Nat} {x y : α} [Decidable (a ≤ b)] (h : a ≤ b) : (if a ≤ b then x else y) = x := if_pos h
theorem if_ltN {α : Type} {a b : Nat} {x y : α} [Decidable (a < b)] (h : a < b) : (if a < b then x else y) = x := if_pos h
theorem if_leI {α : Type} {a b : Int} {x y : α} [Decidable (a ≤ b)] (h : a ≤ b) : (if a ≤ b then x else y) = x := if_pos h
theorem if_ltI {α : Type} {a b : Int} {x y : α} [Decidable (a < b)] (h : a < b) : (if a < b then x else y) = x := if_pos h
@[simp] theorem strsOf_app (l m : List Str) : strsOf (l.map D.str ++ m.map D.str) = some (l ++ m) := by rw [← List.map_append]; exact strsOf_map _
@[simp] theorem strsOf_mid (l m : List Str) (w : Str) : strsOf (l.map D.str ++ D.str w :: m.map D.str) = some (l ++ w :: m) := by
  rw [show D.str w :: m.map D.str = (w :: m).map D.str from rfl]; exact strsOf_app _ _
@[simp] theorem strsOf_end (l : List Str) (w : Str) : strsOf (l.map D.str ++ [D.str w]) = some (l ++ [w]) := strsOf_mid l [] w
end
end VM

namespace VM
open PySem PySem.Spec PyProof.Rows L2 TL VL
open Classical
noncomputable section
/-! ## facts about classes of errors, collected -/
theorem exm_two {K : PySem.W.Frag} {S T : Addr} {b : Bool} (h1 : PySem.W.subIn K (.ref T) (.type "BaseException") = some true) (h2 : PySem.W.isClsIn K T = true) (h3 : PySem.W.typeIn K (.ref T) = some (.type "type")) (h4 : PySem.W.subIn K (.ref S) (.ref T) = some b) :
    PySem.W.exmOne K (.ref S) (.ref T) = some b := by
  have e1 : (PySem.W.subIn K (.ref T) (.type "BaseException") == some true) = true := by rw [h1] <;> rfl
  have e2 : ((PySem.W.clsIn K T).isSome && PySem.W.typeIn K (.ref T) == some (.type "type")) = true := by
    have h2' : (PySem.W.clsIn K T).isSome = true := h2
    rw [h2', h3] <;> rfl
  show (if (PySem.W.subIn K (.ref T) (.type "BaseException") == some true) = true then (if ((PySem.W.clsIn K T).isSome && PySem.W.typeIn K (.ref T) == some (.type "type")) = true then PySem.W.subIn K (.ref S) (.ref T) else none) else none) = some b
  rw [if_pos e1, if_pos e2]
  exact h4
section
variable {P : Program} {w : World} {K : PySem.W.Frag} {mg : Str → Option Value} {base : Heap}
theorem dcx_mk {x : Str} {st : Stmt} {f : Addr} {fd : FuncData} {ps : List Str} {k : Nat} {G : List D → XO} (F : Fun K x x st f fd) (G0 : FnGX P w K mg base k f fd ps (spX K mg G)) (hm : mg x = some (.ref f))
    (h : ∀ (kV doc pm : Value) (an : Option Addr) (cdv ct : Value) (us : List Value), us.length = ps.length → bindArgs (PySem.W.fnOf x x (defArgs st) (defBody st) (defScope st) .none kV doc pm an cdv ct) ⟨us, []⟩ = pure (ps.zip us)) : DcX P w K mg base k x ps G :=
  ⟨f, fd, G0, hm, F.kp, F.binds h⟩
end
theorem exmP_nil {K : PySem.W.Frag} {mg : Str → Option Value} {hcs : List Str} : ExmP K mg [] hcs := ⟨fun c hc => absurd hc List.not_mem_nil⟩
theorem exmP_cons {K : PySem.W.Frag} {mg : Str → Option Value} {c : Str} {known hcs : List Str} (h1 : ExmP K mg [c] hcs) (h2 : ExmP K mg known hcs) : ExmP K mg (c :: known) hcs := ⟨fun d hd => by
  rcases List.mem_cons.mp hd with rfl | hd
  · exact h1.at_ d List.mem_cons_self
  · exact h2.at_ d hd⟩
theorem exmP1_nil {K : PySem.W.Frag} {mg : Str → Option Value} {c : Str} : ExmP K mg [c] [] := ⟨fun _ _ g hg => absurd hg List.not_mem_nil⟩
theorem exmP1_cons {K : PySem.W.Frag} {mg : Str → Option Value} {c g : Str} {hcs : List Str} {C0 G0 : Addr} (hc : mg c = some (.ref C0)) (hg : mg g = some (.ref G0)) (h : PySem.W.exmOne K (.ref C0) (.ref G0) = some (decide (c = g))) (h2 : ExmP K mg [c] hcs) : ExmP K mg [c] (g :: hcs) := ⟨fun d hd e he C C' h1 h3 => by
  have hd' := List.mem_singleton.mp hd
  subst hd'
  rcases List.mem_cons.mp he with rfl | he
  · rw [hc] at h1; rw [hg] at h3
    cases h1; cases h3
    exact h
  · exact h2.at_ d hd e he C C' h1 h3⟩
end
end VM

namespace VM
open PySem PySem.Spec PyProof.Rows L2 TL VL
open Classical
noncomputable section
/-! ## an empty dict, held fast -/
theorem we_closS {X : Cx} {B : Bs} {ds : Slots} {ms : List Ob} {e : Expr} {Q : D → List Ob → Prop} (h : ms.all (Ob.cl ms.length) = true → WE X B ds ms e Q) : WE X B ds ms e Q := .mk fun σ H θ S L => (h (sat_clos S)) σ H θ S L
@[simp] def dicR (_ : Slots) (ms : List Ob) : Res D := .ok (.rod [] []) ms
theorem s_dicR {X : Cx} {pos : Pos} : SE X (.Dict [] [] pos) dicR := ⟨fun B ds ms Q h => we_closS fun hc => we_frzD (we_dict0 ⟨ms, [], rfl, rfl, Nat.le_refl _, hc, rfl, h⟩)⟩
@[simp] theorem im_rod (ks : List Key) (ds : List D) : D.im (.rod ks ds) = imAll ds := by show (D.rod ks ds).im = _; unfold D.im; rfl
/-! ## a loop's turn whose target is a name -/
theorem turn_nm {i : Nat} {body : MS} {d : D} {ds : Slots} {m : List Ob} : turn (gNm i) body d ds m = body (ds.set i (some d)) m := by
  unfold turn
  show (Res.ok (ds.set i (some d)) m).bind body = _
  rw [bind_ok]
/-! ## list(range(..)) -/
theorem reps_rg {K : PySem.W.Frag} {θ : List Addr} {H : Hp} (a : Int) : ∀ l : List Nat, Reps K θ H (l.map fun i => D.int (a + (i : Nat))) (l.map fun i => V.int (a + (i : Nat)))
  | [] => mk_nil
  | i :: l => mk_cons mk_int (reps_rg a l)
theorem rg_len (a b : Int) : ((List.range (b - a).toNat).map fun i => D.int (a + (i : Nat))).length = (b - a).toNat := by simp
theorem rg_im (a : Int) (l : List Nat) : imAll (l.map fun i => D.int (a + (i : Nat))) = true := imAll_map fun _ _ => rfl
@[simp] def lrg1K (d : D) (m : List Ob) : Res D := match d with
  | .int n => if -1000000000 ≤ n ∧ n ≤ 16777216 then .ok (.obj m.length) (m ++ [.lst ((List.range n.toNat).map fun i => .int (i : Nat))]) else .bad
  | _ => .bad
@[simp] def lrg1 (a : ME) (ds : Slots) (ms : List Ob) : Res D := (a ds ms).bind lrg1K
@[simp] def lrg1RK (n0 : Nat) (d : D) (m : List Ob) : Res D := match d with
  | .int n => if (-1000000000 ≤ n ∧ n ≤ 16777216) ∧ n0 ≤ m.length then .ok (.rol ((List.range n.toNat).map fun i => .int (i : Nat))) m else .bad
  | _ => .bad
@[simp] def lrg1R (a : ME) (ds : Slots) (ms : List Ob) : Res D := (a ds ms).bind (lrg1RK ms.length)
@[simp] def lrg2K2 (d e : D) (m : List Ob) : Res D := match d, e with
  | .int lo, .int hi => if (-1000000000 ≤ lo ∧ lo ≤ 1000000000) ∧ -1000000000 ≤ hi ∧ hi ≤ 1000000000 ∧ hi - lo ≤ 16777216 then .ok (.obj m.length) (m ++ [.lst ((List.range (hi - lo).toNat).map fun i => .int (lo + (i : Nat)))]) else .bad
  | _, _ => .bad
@[simp] def lrg2K (b : ME) (ds : Slots) (d : D) (m : List Ob) : Res D := (b ds m).bind (lrg2K2 d)
@[simp] def lrg2 (a b : ME) (ds : Slots) (ms : List Ob) : Res D := (a ds ms).bind (lrg2K b ds)
section
variable {X : Cx} {a b : Expr} {p p2 pos pos2 : Pos} {ma mb : ME}
theorem rgV0 (n : Int) : rgV 0 n = (List.range n.toNat).map fun i => V.int (0 + (i : Nat)) := by unfold rgV; rw [Int.sub_zero]
theorem d0 (n : Nat) : ((List.range n).map fun i => D.int (i : Nat)) = (List.range n).map fun i => D.int (0 + (i : Nat)) := by congr 1; funext i; rw [Int.zero_add]
theorem s_lrg1 (hc : X.calm = true) (hg : Gl X "list") (hm : X.mg "list" = none) (hg2 : Gl X "range") (hm2 : X.mg "range" = none) (h1 : SE X a ma) (n1 : starEach [a] X.env = (false, eval a X.env) :: starEach [] X.env := by rfl)
    (n2 : starEach [.Call (.Name "range" p2) [a] [] pos2] X.env = (false, eval (.Call (.Name "range" p2) [a] [] pos2) X.env) :: starEach [] X.env := by rfl) : SE X (.Call (.Name "list" p) [.Call (.Name "range" p2) [a] [] pos2] [] pos) (lrg1 ma) := ⟨fun B ds ms Q h =>
  WE.pe (pe_listRg hc hg hm (prg_1 hg2 hm2 pe_can n1) n2) fun σ H θ S L => (h1.run B ds ms _ (wp_bind.mp h)).bind S L fun d m v H1 more q r im S1 L1 => by
    unfold lrg1K at q
    split at q
    · rename_i n
      split at q
      · rename_i c
        cases rep_int r
        refine ⟨n, rfl, ⟨by omega, by omega, by omega, by omega, by omega⟩, fun l hl => ?_⟩
        rw [rgV0]
        rw [d0] at q
        exact (pv_lst S1 (reps_rg 0 _) hl q).trans im
      · exact q.elim
    · exact q.elim⟩
theorem s_lrg1R (hc : X.calm = true) (hg : Gl X "list") (hm : X.mg "list" = none) (hg2 : Gl X "range") (hm2 : X.mg "range" = none) (h1 : SE X a ma) (n1 : starEach [a] X.env = (false, eval a X.env) :: starEach [] X.env := by rfl)
    (n2 : starEach [.Call (.Name "range" p2) [a] [] pos2] X.env = (false, eval (.Call (.Name "range" p2) [a] [] pos2) X.env) :: starEach [] X.env := by rfl) : SE X (.Call (.Name "list" p) [.Call (.Name "range" p2) [a] [] pos2] [] pos) (lrg1R ma) := ⟨fun B ds ms Q h =>
  we_frzL (WE.pe (pe_listRg hc hg hm (prg_1 hg2 hm2 pe_can n1) n2) fun σ H θ S L => (h1.run B ds ms _ (wp_bind.mp h)).bind S L fun d m v H1 more q r im S1 L1 => by
    unfold lrg1RK at q
    split at q
    · rename_i n
      split at q
      · rename_i c
        cases rep_int r
        refine ⟨n, rfl, ⟨by omega, by omega, by omega, by omega, by omega⟩, fun l hl => ?_⟩
        rw [rgV0]
        rw [d0] at q
        exact (pv_lst S1 (reps_rg 0 _) hl ⟨m, _, rfl, rfl, c.2, sat_clos S1, rg_im 0 _, q⟩).trans im
      · exact q.elim
    · exact q.elim)⟩
theorem s_lrg2 (hc : X.calm = true) (hg : Gl X "list") (hm : X.mg "list" = none) (hg2 : Gl X "range") (hm2 : X.mg "range" = none) (h1 : SE X a ma) (h2 : SE X b mb) (n1 : starEach [a, b] X.env = (false, eval a X.env) :: starEach [b] X.env := by rfl) (n3 : starEach [b] X.env = (false, eval b X.env) :: starEach [] X.env := by rfl)
    (hp : (backTo pos2 (starEach [b] X.env)).any (·.1) = false := by rfl)
    (n2 : starEach [.Call (.Name "range" p2) [a, b] [] pos2] X.env = (false, eval (.Call (.Name "range" p2) [a, b] [] pos2) X.env) :: starEach [] X.env := by rfl) : SE X (.Call (.Name "list" p) [.Call (.Name "range" p2) [a, b] [] pos2] [] pos) (lrg2 ma mb) := ⟨fun B ds ms Q h =>
  WE.pe (pe_listRg hc hg hm (prg_2 hg2 hm2 pe_can pe_can n1 n3 hp) n2) fun σ H θ S L => (h1.run B ds ms _ (wp_imp (wp_bind.mp h) fun d m h => h2.run B ds m _ (wp_bind.mp h))).bind S L fun d m v H1 more q r im S1 L1 => q.bind S1 L1 fun e m2 w H2 more2 q2 r2 im2 S2 L2 => by
    unfold lrg2K2 at q2
    split at q2
    · rename_i lo hi
      split at q2
      · rename_i c
        cases rep_int r
        cases rep_int r2
        refine ⟨lo, hi, rfl, rfl, ⟨by omega, by omega, by omega, by omega, by omega⟩, fun l hl => ?_⟩
        unfold rgV
        exact ((pv_lst S2 (reps_rg lo _) hl q2).trans im2).trans im
      · exact q2.elim
    · exact q2.elim⟩
end
end
end VM

namespace VM
open PySem PySem.Spec PyProof.Rows L2 TL VL
open Classical
noncomputable section
/-! ## numbers as they are written -/
theorem numS_tl (n : Nat) : tl (numS n) = numL n := tl_num n
theorem numS_val (n : Nat) : PySem.NumText.digitsVal (tl (numS n)) = n := by rw [numS_tl, numL_val]
theorem numL_head : ∀ {n : Nat}, n ≠ 0 → ∃ c r, numL n = c :: r ∧ c ≠ 48 := by
  intro n
  induction n using Nat.strongRecOn with
  | _ n ih =>
    intro h0
    by_cases h : n < 10
    · exact ⟨48 + n, [], numL_lt h, by omega⟩
    · obtain ⟨c, r, e, hc⟩ := ih (n / 10) (by omega) (by omega)
      exact ⟨c, r ++ [48 + n % 10], by rw [numL_step (by omega), e]; rfl, hc⟩
theorem numS_lenK {n k : Nat} (hk : 0 < k) (h : n < 10 ^ k) : (numS n).length ≤ k := by rw [← tl_len, numS_tl]; exact numL_len hk h
theorem in_figs {c : Nat} (h1 : 48 ≤ c) (h2 : c ≤ 57) : c ∈ figs := by
  have key : ∀ c ∈ List.range 58, 48 ≤ c → c ∈ figs := by decide +kernel
  exact key c (List.mem_range.mpr (by omega)) h1
theorem num_figG {n : Nat} (h : n < 1000000000) : figB (tl (numS n)) 9 = true := by
  have hl : (numL n).length ≤ 9 := numL_len (by decide) h
  have hn : 1 ≤ (numL n).length := List.length_pos_iff.mpr (numL_ne n)
  have hf : ((numL n).filter fun c => !decide (c ∈ figs)).isEmpty = true := by
    rw [List.isEmpty_iff, List.filter_eq_nil_iff]
    intro c hc
    obtain ⟨h1, h2⟩ := numL_digits n c hc
    rw [decide_eq_true (in_figs h1 h2)]; decide
  rw [numS_tl]
  unfold figB
  rw [hf, decide_eq_true (show (1 : Int) ≤ (numL n).length by omega), decide_eq_true (show ((numL n).length : Int) ≤ 9 by omega)]
  by_cases h0 : n = 0
  · subst h0
    rw [numL_lt (by decide)]; decide +kernel
  · obtain ⟨c, r, e, hc⟩ := numL_head h0
    rw [e]
    have : ¬ mkS ((c :: r).take 1) = Str.ofString "0" := fun z => by
      have z2 : tl (mkS [c]) = tl (Str.ofString "0") := congrArg tl z
      have e3 : tl (Str.ofString "0") = [48] := by decide +kernel
      rw [e3] at z2
      exact hc (List.cons.inj z2).1
    rw [decide_eq_false this]; simp
/-! ## comparisons in the wide sense -/
structure TxOk (c : Cmp) : Prop where
  l1 : 1 ≤ c.L
  l3 : c.L ≤ 3
  mkl : c.marks.length = c.rows.length
  mr : ∀ v ∈ c.marks, -1 ≤ v ∧ v ≤ 1
  few : c.rows.length ≤ 400
  row : ∀ r ∈ c.rows, r ≠ [] ∧ r.length ≤ 16 ∧ ∀ n ∈ r, n < 1000000000
theorem WrOk.tx {c : Cmp} (h : WrOk c) : TxOk c := ⟨h.ok.l1, h.ok.l3, h.ok.mkl, h.ok.mr, h.few, fun r hr => ⟨(h.row r hr).ne, Nat.le_trans (h.row r hr).len (by decide), fun n hn => Nat.lt_trans ((h.row r hr).lt n hn) (by decide)⟩⟩
theorem TxOk.zip {c : Cmp} (h : TxOk c) : (c.rows.zip c.marks).length = c.rows.length := by rw [List.length_zip, h.mkl, Nat.min_self]
theorem line_lenT {r : List Nat} {v : Int} (h : ∀ n ∈ r, n < 1000000000) (hl : r.length ≤ 16) : (lineS r v).length ≤ 170 := by
  unfold lineS
  have := cost_join sp1 (partsS r v) (by simp [partsS])
  have h2 : costS (r.map numS) ≤ 10 * r.length := by
    clear this
    clear hl
    induction r with
    | nil => exact Nat.le_refl _
    | cons n r ih =>
      have h1 := numS_lenK (k := 9) (by decide) (h n List.mem_cons_self)
      have h2 := ih fun m hm => h m (List.mem_cons_of_mem _ hm)
      rw [List.map_cons, cost_cons, List.length_cons]; omega
  unfold partsS at this ⊢
  rw [cost_cons, cost_app, cost_cons, cost_nil, wordS_len] at this
  have h3 : (Str.ofString "state").length = 5 := by decide +kernel
  rw [h3] at this
  omega
theorem text_costT {c : Cmp} (ok : TxOk c) : costS (linesS c) ≤ 12 + 171 * c.rows.length := by
  have h2 : costS ((c.rows.zip c.marks).map fun p => lineS p.1 p.2) ≤ 171 * (c.rows.zip c.marks).length := by
    have : ∀ p ∈ c.rows.zip c.marks, (lineS p.1 p.2).length ≤ 170 := fun p hp => by
      have hr := ok.row _ (List.of_mem_zip hp).1
      exact line_lenT hr.2.2 hr.2.1
    generalize c.rows.zip c.marks = z at this
    induction z with
    | nil => exact Nat.le_refl _
    | cons p z ih =>
      have h1 := this p List.mem_cons_self
      have h2 := ih fun q hq => this q (List.mem_cons_of_mem _ hq)
      rw [List.map_cons, cost_cons, List.length_cons]; omega
  rw [ok.zip] at h2
  have h3 := head_len c.L
  unfold linesS
  rw [cost_cons]
  omega
theorem text_lenT {c : Cmp} (ok : TxOk c) : (textS c).length ≤ 12 + 171 * c.rows.length := Nat.le_trans (cost_join_le nl1 _) (text_costT ok)
theorem log_big {n : Nat} (h : n < 1000000000) : n.log2 < 1920 := by
  by_cases h0 : n = 0
  · subst h0; decide
  · have : n.log2 < 30 := (Nat.log2_lt h0).mpr (by have : (2 : Nat) ^ 30 = 1073741824 := by decide
                                                   omega)
    omega
end
end VM

namespace VM
open PySem PySem.Spec PyProof.Rows L2 TL VL
open Classical
noncomputable section
/-! ## what a turn leaves behind -/
theorem turnEnd_pre {k : List Nat} {n : Nat} {ds : Slots} {P R : List Ob} (hn : P.length = n) (hP : P.all (Ob.cl n) = true) (hR : R ≠ []) : turnEnd k true n ds (P ++ R) = (killD (keepS n ds) k, P) := by
  subst hn
  unfold turnEnd
  rw [List.take_left]
  have : P.length < (P ++ R).length := by
    rw [List.length_append]
    have := List.length_pos_iff.mpr hR
    omega
  rw [if_pos ⟨rfl, this, hP⟩]
theorem dkS_cl (q : Dk) : (dkS q).all (Ob.cl 2) = true := by
  have h : clAll 2 (q.1.map D.int) = true := im_clA (im_ints _)
  show (clAll 2 (q.1.map D.int) && (clAll 2 [.obj 0, .int q.2] && true)) = true
  rw [h]; rfl
theorem turnEnd_dk {k : List Nat} {ds : Slots} {q : Dk} {R : List Ob} (hR : R ≠ []) : turnEnd k true 2 ds (dkS q ++ R) = (killD (keepS 2 ds) k, dkS q) := turnEnd_pre rfl (dkS_cl q) hR
@[simp] theorem keepS_nil (n : Nat) : keepS n [] = [] := rfl
@[simp] theorem keepS_none (n : Nat) (ds : Slots) : keepS n (none :: ds) = none :: keepS n ds := rfl
theorem keepS_cl {n : Nat} {d : D} {ds : Slots} (h : D.cl n d = true) : keepS n (some d :: ds) = some d :: keepS n ds := by
  unfold keepS
  rw [List.map_cons]
  show (if D.cl n d = true then some d else none) :: _ = _
  rw [if_pos h]
@[simp] theorem keepS_obj0 (ds : Slots) : keepS 1 (some (.obj 0) :: ds) = some (.obj 0) :: keepS 1 ds := rfl
@[simp] theorem keepS_obj1 (ds : Slots) : keepS 2 (some (.obj 1) :: ds) = some (.obj 1) :: keepS 2 ds := rfl
theorem keepS_len (n : Nat) (ds : Slots) : (keepS n ds).length = ds.length := by unfold keepS; rw [List.length_map]
theorem keepS_any (n : Nat) (o : Option D) (ds : Slots) : ∃ o', keepS n (o :: ds) = o' :: keepS n ds := ⟨_, rfl⟩
/-- the script as a value -/
theorem script_cl (n : Nat) (ns : List Int) : D.cl n (.rol (ns.map D.int)) = true := im_cl (by rw [im_rol]; exact imAll_ints ns)
end
end VM

namespace VM
open PySem PySem.Spec PyProof.Rows L2 TL VL
open Classical
noncomputable section
/-! ## classes -/
/-- o.f = e -/
@[simp] def fldK2 (Cs : List Str) (f : Str) (ds : Slots) (d e : D) (m : List Ob) : Res Fl := match e with
  | .obj k => match m[k]? with
    | some (.ins c fs) => if c ∈ Cs ∧ fs.length < 999 then .ok (.nx ds) (m.set k (.ins c (putFD f d fs))) else .bad
    | _ => .bad
  | _ => .bad
@[simp] def fldK (Cs : List Str) (f : Str) (o : ME) (ds : Slots) (d : D) (m : List Ob) : Res Fl := (o ds m).bind (fldK2 Cs f ds d)
@[simp] def fldS (Cs : List Str) (f : Str) (o e : ME) (ds : Slots) (ms : List Ob) : Res Fl := (e ds ms).bind (fldK Cs f o ds)
/-- C(e, ..): G is the promise of C.__init__ with the whole store -/
@[simp] def mkK2 (k : Nat) (d : D) (m : List Ob) : Res D := match d with
  | .non => .ok (.obj k) m
  | _ => .bad
@[simp] def mkK (c : Str) (G : List D → List Ob → Res D) (dl : List D) (m : List Ob) : Res D := (nox (G (.obj m.length :: dl) (m ++ [.ins c []]))).bind (mkK2 m.length)
@[simp] def mkE (c : Str) (G : List D → List Ob → Res D) (as : MA) (ds : Slots) (ms : List Ob) : Res D := (as ds ms).bind (mkK c G)
/-- o.m(e, ..): by the object's class -/
@[simp] def mtK2 (G : List D → List Ob → Res D) (d : D) (dl : List D) (m : List Ob) : Res D := nox (G (d :: dl) m)
@[simp] def mtK (Ms : List (Str × (List D → List Ob → Res D))) (mn : Str) (as : MA) (ds : Slots) (d : D) (m : List Ob) : Res D := match d with
  | .obj j => match m[j]? with
    | some (.ins c fs) => match Ms.lookup c with
      | some G => if fs.lookup mn = none then (as ds m).bind (mtK2 G d) else .bad
      | none => .bad
    | _ => .bad
  | _ => .bad
@[simp] def mtE (Ms : List (Str × (List D → List Ob → Res D))) (mn : Str) (o : ME) (as : MA) (ds : Slots) (ms : List Ob) : Res D := (o ds ms).bind (mtK Ms mn as ds)
/-- what is known of the classes -/
def ClsA (K : PySem.W.Frag) (f : Str) (Cs : List Str) : Prop := ∀ c ∈ Cs, ∃ C, ClsN K c C ∧ Cls K C ∧ NoAttr K C f
theorem clsA_nil {K : PySem.W.Frag} {f : Str} : ClsA K f [] := fun _ h => nomatch h
theorem clsA_cons {K : PySem.W.Frag} {f c : Str} {C : Addr} {Cs : List Str} (h1 : ClsN K c C) (h2 : Cls K C) (h3 : NoAttr K C f) (h : ClsA K f Cs) : ClsA K f (c :: Cs) := fun x hx => by
  rcases List.mem_cons.mp hx with e | e
  · subst e; exact ⟨C, h1, h2, h3⟩
  · exact h x e
def MtsA (X : Cx) (k : Nat) (mn : Str) (ps : List Str) (Ms : List (Str × (List D → List Ob → Res D))) : Prop :=
  ∀ c G, Ms.lookup c = some G → ∃ C, ClsN X.K c C ∧ Cls X.K C ∧ MtC X.prog X.w X.K X.mg X.base k C mn ps (aV G)
theorem mtsA_nil {X : Cx} {k : Nat} {mn : Str} {ps : List Str} : MtsA X k mn ps [] := fun _ _ h => nomatch h
theorem mtsA_cons {X : Cx} {k : Nat} {mn c : Str} {ps : List Str} {C : Addr} {G : List D → List Ob → Res D} {Ms : List (Str × (List D → List Ob → Res D))} (h1 : ClsN X.K c C) (h2 : Cls X.K C) (h3 : MtC X.prog X.w X.K X.mg X.base k C mn ps (aV G)) (h : MtsA X k mn ps Ms) : MtsA X k mn ps ((c, G) :: Ms) := fun x G' e => by
  rw [List.lookup_cons] at e
  split at e
  · rename_i hx
    cases e
    have := eq_of_beq hx; subst this
    exact ⟨C, h1, h2, h3⟩
  · exact h x G' e
section
variable {X : Cx} {pos : Pos} {k : Nat} {x : Str} {ps : List Str} {xp : Pos} {e : Expr} {es : List Expr} {as : MA}
theorem st_fld {Cs : List Str} {o value : Expr} {f : Str} {pos' : Pos} {mo mv : ME} (h1 : SE X value mv) (h2 : SE X o mo) (hC : ClsA X.K f Cs)
    (hs : swapsWith value (some (.Attribute o f pos')) pos.line X.env = pure false := by rfl) : SS X (.Assign [.Attribute o f pos'] value pos) (fldS Cs f mo mv) := ⟨fun B fl ds ms E h =>
  ws_attr (h1.run B ds ms _ (wp_imp (wp_bind.mp h) fun d m h => h2.run B ds m _ (wp_imp (wp_bind.mp h) fun e m2 h => by
    unfold fldK2 at h
    split at h
    · split at h
      · split at h
        · rename_i c
          obtain ⟨C, h1, h2, h3⟩ := hC _ c.1
          exact ⟨_, _, C, _, rfl, by assumption, h1, h2, h3, Nat.lt_trans c.2 (by decide), h⟩
        · exact h.elim
      · exact h.elim
    · exact h.elim))) hs⟩
theorem s_mk {c : Str} {C : Addr} {G : List D → List Ob → Res D} (hcn : ClsN X.K c C) (M : MkC X.prog X.w X.K X.mg X.base k x C ps (aV G)) (hr : Room (k + 1) X.A) (hgd : X.A.guards = some []) (hg : Gl X x) (ha : SA X (e :: es) as)
    (hdb : (x == ("__debug__" : Str)) = false := by decide) (he : starEach (e :: es) X.env = (false, eval e X.env) :: starEach es X.env := by rfl) (hpl : (backTo pos (starEach es X.env)).any (·.1) = false := by rfl) : SE X (.Call (.Name x xp) (e :: es) [] pos) (mkE c G as) := ⟨fun B ds ms Q h =>
  we_makeD hcn M hr hgd hg (ha.run B ds ms _ (wp_imp (wp_bind.mp h) fun dl m h => by
    have h := wp_bind.mp h
    exact callF_all (φ := aV G) (wp_imp (wp_noxF h) fun d m' q _ => by
      unfold mkK2 at q
      split at q
      · exact ⟨rfl, q⟩
      · exact q.elim) aV_mono)) hdb he hpl⟩
/-- o.m(e, ..), the class known at run -/
theorem we_methA {B : Bs} {ds : Slots} {ms : List Ob} {Q : D → List Ob → Prop} {o : Expr} {m : Str} {apos : Pos} {pl : Sem Bool} (hr : Room k X.A) (hgd : X.A.guards = some [])
    (h : WE X B ds ms o fun d m1 => ∃ j cn C fs φ, d = .obj j ∧ m1[j]? = some (.ins cn fs) ∧ ClsN X.K cn C ∧ Cls X.K C ∧ MtC X.prog X.w X.K X.mg X.base k C m ps φ ∧ fs.lookup m = none ∧ WA X B ds m1 (e :: es) fun dl m2 => CallF φ (d :: dl) m2 Q)
    (hst : starEach (e :: es) X.env = (false, eval e X.env) :: starEach es X.env := by rfl) (hpl : (backTo pos (starEach es X.env)).any (·.1) = false := by rfl)
    (ht : eval (.Call (.Attribute o m apos) (e :: es) [] pos) X.env = (do
      let ov ← eval o X.env
      standAt apos.atName
      let (f, first) ← holding [ov] (getMethod ov m pl)
      callWith pos f first (backTo pos (starEach (e :: es) X.env)) (backToKw pos (keywordEach [] X.env))) := by rfl) :
    WE X B ds ms (.Call (.Attribute o m apos) (e :: es) [] pos) Q := .mk fun σ H θ S L pins s I => by
  refine PySem.W.methodCall_KW (pl := pl) (thn (h σ H θ S L pins s I) fun u s1 ⟨v, H1, I1, rv, d, m1, more, r1, im1, S1, j, cn, C, fs, φ, hd, hj, hcn, c, M, hl, q⟩ => ?_) ht
  obtain ⟨f, fd, G, hm, hb⟩ := M
  subst hd
  obtain ⟨a, e1, rfl⟩ := rep_obj r1
  obtain ⟨C2, dx, vs, hcn2, s0, rs⟩ := S1.obs j _ a hj e1
  cases hcn.inj hcn2
  cases rv
  refine getmeth_ok I1 s0 c hm ((rs.fld (f := m)).2 hl) (PySem.W.callWith_K (first := [.ref a]) (h₀ := X.base) I1.ok.mod.kin hm.kp (thn (q σ H1 _ S1 (L.mono (Le.app _ _) im1) pos pins s1 I1) fun us s2 ⟨ws, H2, I2, r, dl, m2, more2, r2, im2, S2, q2⟩ => ⟨I2.kIn, ?_⟩) hst hpl)
  exact runG (us := .ref a :: us) (vs := .ref a :: ws) G hr hgd hb I2 (.cons rfl r) ((q2.sp (E := E0) S2 (mk_cons (mk_obj (Le.app _ _ _ _ e1)) r2)).mono fun v H3 z => (z.trans im2).trans im1)
theorem we_methA0 {B : Bs} {ds : Slots} {ms : List Ob} {Q : D → List Ob → Prop} {o : Expr} {m : Str} {apos : Pos} {pl : Sem Bool} (hr : Room k X.A) (hgd : X.A.guards = some [])
    (h : WE X B ds ms o fun d m1 => ∃ j cn C fs φ, d = .obj j ∧ m1[j]? = some (.ins cn fs) ∧ ClsN X.K cn C ∧ Cls X.K C ∧ MtC X.prog X.w X.K X.mg X.base k C m ps φ ∧ fs.lookup m = none ∧ CallF φ [d] m1 Q)
    (ht : eval (.Call (.Attribute o m apos) [] [] pos) X.env = (do
      let ov ← eval o X.env
      standAt apos.atName
      let (f, first) ← holding [ov] (getMethod ov m pl)
      callWith pos f first (backTo pos (starEach [] X.env)) (backToKw pos (keywordEach [] X.env))) := by rfl) :
    WE X B ds ms (.Call (.Attribute o m apos) [] [] pos) Q := .mk fun σ H θ S L pins s I => by
  refine PySem.W.methodCall_KW (pl := pl) (thn (h σ H θ S L pins s I) fun u s1 ⟨v, H1, I1, rv, d, m1, more, r1, im1, S1, j, cn, C, fs, φ, hd, hj, hcn, c, M, hl, q⟩ => ?_) ht
  obtain ⟨f, fd, G, hm, hb⟩ := M
  subst hd
  obtain ⟨a, e1, rfl⟩ := rep_obj r1
  obtain ⟨C2, dx, vs, hcn2, s0, rs⟩ := S1.obs j _ a hj e1
  cases hcn.inj hcn2
  cases rv
  exact getmeth_ok I1 s0 c hm ((rs.fld (f := m)).2 hl) (PySem.W.callWith_K0 (first := [.ref a]) I1.kIn hm.kp (runG (us := [.ref a]) (vs := [.ref a]) G hr hgd hb I1 (.cons rfl .nil) ((q.sp (E := E0) S1 (mk_cons (mk_obj e1) mk_nil)).mono fun v H3 z => z.trans im1)))
theorem s_mt {Ms : List (Str × (List D → List Ob → Res D))} {o : Expr} {mn : Str} {apos : Pos} {pl : Sem Bool} {mo : ME} (hM : MtsA X k mn ps Ms) (hr : Room k X.A) (hgd : X.A.guards = some []) (h1 : SE X o mo) (ha : SA X (e :: es) as)
    (hst : starEach (e :: es) X.env = (false, eval e X.env) :: starEach es X.env := by rfl) (hpl : (backTo pos (starEach es X.env)).any (·.1) = false := by rfl)
    (ht : eval (.Call (.Attribute o mn apos) (e :: es) [] pos) X.env = (do
      let ov ← eval o X.env
      standAt apos.atName
      let (f, first) ← holding [ov] (getMethod ov mn pl)
      callWith pos f first (backTo pos (starEach (e :: es) X.env)) (backToKw pos (keywordEach [] X.env))) := by rfl) : SE X (.Call (.Attribute o mn apos) (e :: es) [] pos) (mtE Ms mn mo as) := ⟨fun B ds ms Q h =>
  we_methA (ps := ps) (pl := pl) hr hgd (h1.run B ds ms _ (wp_imp (wp_bind.mp h) fun d m h => by
    unfold mtK at h
    split at h
    · split at h
      · split at h
        · rename_i G hG
          split at h
          · obtain ⟨C, h1, h2, h3⟩ := hM _ _ hG
            exact ⟨_, _, C, _, _, rfl, by assumption, h1, h2, h3, by assumption, ha.run B ds m _ (wp_imp (wp_bind.mp h) fun dl m2 h => callF_all (φ := aV G) (wp_imp (wp_noxF h) fun d m' q _ => q) aV_mono)⟩
          · exact h.elim
        · exact h.elim
      · exact h.elim
    · exact h.elim)) hst hpl ht⟩
theorem s_mt0 {Ms : List (Str × (List D → List Ob → Res D))} {o : Expr} {mn : Str} {apos : Pos} {pl : Sem Bool} {mo : ME} (hM : MtsA X k mn ps Ms) (hr : Room k X.A) (hgd : X.A.guards = some []) (h1 : SE X o mo)
    (ht : eval (.Call (.Attribute o mn apos) [] [] pos) X.env = (do
      let ov ← eval o X.env
      standAt apos.atName
      let (f, first) ← holding [ov] (getMethod ov mn pl)
      callWith pos f first (backTo pos (starEach [] X.env)) (backToKw pos (keywordEach [] X.env))) := by rfl) : SE X (.Call (.Attribute o mn apos) [] [] pos) (mtE Ms mn mo aNil) := ⟨fun B ds ms Q h =>
  we_methA0 (ps := ps) (pl := pl) hr hgd (h1.run B ds ms _ (wp_imp (wp_bind.mp h) fun d m h => by
    unfold mtK at h
    split at h
    · split at h
      · split at h
        · rename_i G hG
          split at h
          · obtain ⟨C, h1, h2, h3⟩ := hM _ _ hG
            exact ⟨_, _, C, _, _, rfl, by assumption, h1, h2, h3, by assumption, callF_all (φ := aV G) (wp_imp (wp_noxF (show wp (nox (G [_] m)) Q _ from h)) fun d m' q _ => q) aV_mono⟩
          · exact h.elim
        · exact h.elim
      · exact h.elim
    · exact h.elim)) ht⟩
end
/-! ## o[i] = d: lists, dicts with plain keys -/
def rSetLD : TSet := fun o i v H Q => rSetL o i v H Q ∨ rSetD o i v H Q
theorem set_either {X : Cx} (hu : X.A.units + 1 < cLine) : PSet X rSetLD := fun pins s σ H o i v ov iv u Q I ro ri rv h =>
  h.elim (fun h => set_list pins s σ H o i v ov iv u Q I ro ri rv h) fun h => set_dict hu pins s σ H o i v ov iv u Q I ro ri rv h
@[simp] def keysOf : List D → Option (List Key)
  | [] => some []
  | d :: r => match keyOf d, keysOf r with
    | some k, some ks => some (k :: ks)
    | _, _ => none
/-- what is written -/
@[simp] def putO (d f : D) (ob : Ob) : Option Ob := match ob with
  | .lst xs => match f with
    | .int n => (ixN xs.length n).map fun j => .lst (xs.set j d)
    | _ => none
  | .dK kvs => if kvs.length < sizeLine then (keyOf f).map fun k => .dK (putD kvs k d) else none
  | _ => none
@[simp] def gPutK2 (d : D) (ds : Slots) (e f : D) (m2 : List Ob) : Res Slots := match e with
  | .obj k => match m2[k]? with
    | some ob => match putO d f ob with
      | some ob2 => .ok ds (m2.set k ob2)
      | none => .bad
    | _ => .bad
  | _ => .bad
@[simp] def gPutK (i : ME) (d : D) (ds : Slots) (e : D) (m : List Ob) : Res Slots := (i ds m).bind (gPutK2 d ds e)
@[simp] def gPut (o i : ME) (d : D) (ds : Slots) (ms : List Ob) : Res Slots := (o ds ms).bind (gPutK i d ds)
theorem reps_keys {K : PySem.W.Frag} {θ : List Addr} {H : Hp} : ∀ {l : List D} {ks : List Key} {vs : List V}, keysOf l = some ks → Reps K θ H l vs → vs = ks.map L2.kV
  | [], ks, vs, h, r => by
    cases h
    unfold Reps at r; exact r
  | d :: l, ks, vs, h, r => by
    unfold keysOf at h
    split at h
    · rename_i k ks' h1 h2
      cases h
      unfold Reps at r
      obtain ⟨v, vs', rfl, r1, r2⟩ := r
      rw [keyOf_kD h1] at r1
      rw [rep_kD r1, reps_keys h2 r2]
      rfl
    · cases h
theorem g_put {X : Cx} {o i : Expr} {pos : Pos} {mo mi : ME} (hu : X.A.units + 64 < cLine) (h1 : SE X o mo) (h2 : SE X i mi)
    (ha : ∀ v, assign (.Subscript o i pos) X.env v = (do
      let ov ← holding [v] (eval o X.env)
      let iv ← holding [v, ov] (eval i X.env)
      standAt pos
      holding [v, ov, iv] (setItem ov iv v)
      release [v, ov, iv] []) := by intro _; rfl) : SG X (.Subscript o i pos) (gPut mo mi) := ⟨fun B d ds ms N h =>
  WG.pg (pg_sub pe_can pe_can (set_either (by omega)) ha) fun σ H θ v S L r => (h1.run B ds ms _ (wp_imp (wp_bind.mp h) fun e m h => h2.run B ds m _ (wp_bind.mp h))).bind S L fun e m w H1 more q r1 im S1 L1 => q.bind S1 L1 fun f m2 w2 H2 more2 q2 r2 im2 S2 L2 => by
    unfold gPutK2 at q2
    split at q2
    · rename_i k
      split at q2
      · rename_i ob hk
        split at q2
        · rename_i ob2 hp
          obtain ⟨a, e1, rfl⟩ := rep_obj (Rep.mono (Le.app _ more2) im2 _ _ r1)
          have r' : Rep X.K (θ ++ more ++ more2) H2 d v := Rep.mono (Le.app _ _) im2 _ _ (Rep.mono (Le.app _ _) im _ _ r)
          obtain ⟨u, hu2, hi⟩ := S2.tracked (List.mem_of_getElem? e1)
          have hob := S2.obs k _ a hk e1
          have post : ∀ o' : HO, (∀ H3, H3 a = some o' → ImmP H2 H3 → ObR X.K (θ ++ more ++ more2) H3 a ob2) → ∃ (ds' : List (Option D)) (ms' : List Ob) (more' : List Addr), Slr X.K (θ ++ more') (upd H2 a o') ds' σ ∧ ImmP H (upd H2 a o') ∧ Sat X.K B (θ ++ more') ms' (upd H2 a o') ∧ N ds' ms' := fun o' hob => by
            have im3 : ImmP H2 (upd H2 a o') := ImmP.mut hu2 hi
            obtain ⟨S3, _⟩ := S2.write (o := o') (ob := ob2) e1 (hob _ upd_same im3)
            refine ⟨ds, _, more ++ more2, ?_, (im.trans im2).trans im3, ?_, q2⟩
            · rw [← List.append_assoc]; exact L2.mono (Le.refl _) im3
            · rw [← List.append_assoc]; exact S3
          cases ob with
          | lst xs =>
            obtain ⟨vs, s, rs⟩ := hob
            unfold putO at hp; dsimp only at hp
            split at hp
            · rename_i n
              obtain ⟨j, hj, rfl⟩ := Option.map_eq_some_iff.mp hp
              exact .inl ⟨a, vs, n, j, rfl, rep_int r2, s, by rw [rs.length]; exact hj, post _ fun H3 e im3 => ⟨_, e, Reps.mono (Le.refl _) im3 _ _ (rs.set j r')⟩⟩
            · cases hp
          | dK kvs =>
            obtain ⟨vs, s, rs⟩ := hob
            unfold putO at hp; dsimp only at hp
            split at hp
            · rename_i hz
              obtain ⟨key, hkey, rfl⟩ := Option.map_eq_some_iff.mp hp
              have e2 := keyOf_kD hkey
              subst e2
              cases rep_kD r2
              exact .inr ⟨a, _, rfl, DPut.k s (by rw [rs.length]; exact hz), post _ fun H3 e im3 => ⟨_, e, RepKV.mono (Le.refl _) im3 _ _ (rs.put key r')⟩⟩
            · cases hp
          | dT kvs => unfold putO at hp; cases hp
          | ins c fs => unfold putO at hp; cases hp
        · exact q2.elim
      · exact q2.elim
    · exact q2.elim⟩
end
end VM

namespace VM
open PySem PySem.Spec PyProof.Rows L2 TL VL
open Classical
noncomputable section
/-! ## readers -/
theorem dcL_spots {g : Gd} {app : D → Slots → Option Slots} {ds0 : Slots} {ek ev : ME} {m : List Ob} (hg : gOk g m) (step : ∀ (x : List Nat) (n : Nat), ∃ ds', app (.tup [.int (n : Nat), dS x]) ds0 = some ds' ∧ ek ds' m = .ok (dS x) m ∧ ev ds' m = .ok (.int (n : Nat)) m) :
    ∀ (l done : List (List Nat)), (done ++ l).Nodup → (done ++ l).length < sizeLine → dcL g app ds0 ek ev ((l.zipIdx done.length).map fun p => .tup [.int (p.2 : Nat), dS p.1]) (spotsK done 0) m = .ok (spotsK (done ++ l) 0) m
  | [], done, nd, hz => by
    rw [List.append_nil]
    show dcL g app ds0 ek ev [] _ m = _
    unfold dcL; rw [if_pos hg]
  | x :: l, done, nd, hz => by
    obtain ⟨ds', e1, e2, e3⟩ := step x done.length
    have hn : x ∉ done := fun h => by
      have := (List.nodup_append.mp nd).2.2 x h x List.mem_cons_self
      exact this rfl
    have hl : (spotsK done 0).length < sizeLine := by
      rw [spotsK_eq, List.length_map, List.length_zipIdx]
      have : done.length ≤ (done ++ x :: l).length := by simp
      omega
    rw [List.zipIdx_cons, List.map_cons]
    unfold dcL
    rw [if_pos ⟨hg, hl⟩]
    simp only [e1]
    rw [e2, show nox (Res.ok (dS x) m) = .ok (dS x) m from rfl]
    simp only [bind_ok]
    rw [show keyOf (dS x) = some (.inr (mkS x)) from rfl]
    simp only
    rw [e3, show nox (Res.ok (D.int ((done.length : Nat) : Int)) m) = .ok (D.int ((done.length : Nat) : Int)) m from rfl]
    simp only [bind_ok]
    rw [spots_put hn]
    have h := dcL_spots hg step l (done ++ [x]) (by rw [List.append_assoc]; exact nd) (by rw [List.append_assoc]; exact hz)
    rw [List.length_append] at h
    rw [List.append_assoc] at h
    exact h
/-- a text of signs, padded -/
theorem zip_padS {x y : List Nat} : zipD ((x ++ List.replicate (max x.length y.length - x.length) 46).map fun c => dS [c]) ((y ++ List.replicate (max x.length y.length - y.length) 46).map fun c => dS [c]) =
    (List.range (max x.length y.length)).map fun i => .tup [dS [x.getD i 46], dS [y.getD i 46]] := by
  refine List.ext_getElem? fun i => ?_
  rw [zipD, List.getElem?_zipWith, List.getElem?_map, List.getElem?_map, List.getElem?_map]
  by_cases h : i < max x.length y.length
  · rw [pad_at x _ i h (by omega), pad_at y _ i h (by omega), List.getElem?_range h]; rfl
  · rw [List.getElem?_eq_none (by simp; omega), List.getElem?_eq_none (l := List.range _) (by simp; omega)]; rfl
theorem pf1 (d : D) : putFD "letters" d [] = ([("letters", d)] : List (Str × D)) := rfl
theorem pf2 (d x : D) : putFD "rows" d ([("letters", x)] : List (Str × D)) = ([("letters", x), ("rows", d)] : List (Str × D)) := rfl
theorem pf3 (d x y : D) : putFD "marks" d ([("letters", x), ("rows", y)] : List (Str × D)) = ([("letters", x), ("rows", y), ("marks", d)] : List (Str × D)) := rfl
theorem pf4 (d x y z : D) : putFD "spots" d ([("letters", x), ("rows", y), ("marks", z)] : List (Str × D)) = ([("letters", x), ("rows", y), ("marks", z), ("spots", d)] : List (Str × D)) := rfl
theorem rdF_letters (c : Cmp) (k : Nat) : (readerF c k).lookup ("letters" : Str) = some (.int c.L) := rfl
theorem rdF_rows (c : Cmp) (k : Nat) : (readerF c k).lookup ("rows" : Str) = some (.tup (c.rows.map rowD)) := rfl
theorem rdF_marks (c : Cmp) (k : Nat) : (readerF c k).lookup ("marks" : Str) = some (.tup (c.marks.map D.int)) := rfl
theorem rdF_spots (c : Cmp) (k : Nat) : (readerF c k).lookup ("spots" : Str) = some (.obj k) := rfl
theorem rdF_after (c : Cmp) (k : Nat) : (readerF c k).lookup ("after" : Str) = none := rfl
end
end VM

/-! dict(zip(a text, a tuple)) -/
namespace ZD
open PySem
open PySem.W (KdxIt kdx_alive)
open Sem (wp)
section
variable {prog : Program} {w : World} {A : Around} {E : Value → Shared → Prop} {s : Shared} {z TI TO T i1 i2 : Addr} {fp1 fp2 : List Addr} {n1 n2 i : Nat} {P1 P2 : Nat → Value → Prop} {St1 St2 : Nat → Heap → Prop} {f : Bool} {oT : Obj}
theorem next_item_held {Q : Value → Shared → Prop} (S : ZipSep2 z TI TO i1 i2 fp1 fp2) (D1 : Draws prog w A i1 fp1 n1 P1 St1) (D2 : Draws prog w A i2 fp2 n2 P2 St2)
    (hz : IsZipHeld s.heap z TI TO T f) (hT : s.heap.get? T = some oT) (hTI : IsPair s.heap TI (.ref i1) (.ref i2)) (st1 : St1 i s.heap) (st2 : St2 i s.heap) (hlt1 : i < n1) (hlt2 : i < n2)
    (hQ : ∀ x y h' tk, P1 i x → P2 i y → IsZipHeld h' z TI TO T true → St1 (i + 1) h' → St2 (i + 1) h' → IsPair h' s.heap.objs.size x y → h'.objs.size = s.heap.objs.size + 1 →
      (∀ c o, c ≠ z → c ≠ i1 → c ≠ i2 → s.heap.get? c = some o → h'.get? c = some o) → Q (.ref s.heap.objs.size) { s with heap := h', toks := tk }) :
    wpAny (model prog w) A (Builtin.«zip.__next__» ⟨[.ref z], []⟩) (fun fin s' => ∃ v, fin = .done (.ret v) ∧ Q v s') E s := by
  obtain ⟨hp, g, d, tk0, os⟩ := s
  show wpAny _ _ (field (.ref z) 2 >>= _) _ _ _
  refine wpAny_bind (wpAny_field hz rfl (x := .bool false) rfl ?_)
  show wpAny _ _ (field (.ref z) 3 >>= _) _ _ _
  refine wpAny_bind (wpAny_field hz rfl (x := .ref TI) rfl ?_)
  refine wpAny_bind (wpAny_seqItems hTI rfl ?_)
  show wpAny _ _ (Builtin.SmallTypes.ownedTupleIsFree (.ref z) >>= _) _ _ _
  refine wpAny_bind (wpAny_tupleHeld_zip hz hT fun h₁ hz₁ hs₁ => ?_)
  replace hs₁ : Heap.SameBut z hp h₁ := hs₁
  simp only [Bool.false_eq_true, if_false]
  refine wpAny_bind ?_
  rw [← Array.forIn_toList]
  simp only [List.forIn_cons, List.forIn_nil]
  refine wpAny_bind (wpAny_bind (wpAny_holding ?_))
  show wpAny _ _ (Builtin.SmallTypes.nextOf (.ref i1) >>= _) _ _ ⟨h₁, g, d, tk0, os⟩
  refine wpAny_bind (D1.item i _ _ _ hlt1 (D1.over st1 hs₁ S.zf1) fun x h₂ tk1 hx sn1 hs₂ => wpAny_pure ?_)
  replace hs₂ : Heap.SameBut i1 h₁ h₂ := hs₂
  refine wpAny_pure ?_
  refine wpAny_bind (wpAny_bind (wpAny_holding ?_))
  show wpAny _ _ (Builtin.SmallTypes.nextOf (.ref i2) >>= _) _ _ ⟨h₂, g, d, tk1, os⟩
  refine wpAny_bind (D2.item i _ _ _ hlt2 (D2.over (D2.over st2 hs₁ S.zf2) hs₂ S.sep1_2) fun y h₃ tk2 hy sn2 hs₃ => wpAny_pure ?_)
  replace hs₃ : Heap.SameBut i2 h₂ h₃ := hs₃
  refine wpAny_pure (wpAny_pure ?_)
  show wpAny _ _ (newTuple [x, y] >>= _) _ _ ⟨h₃, g, d, tk2, os⟩
  refine wpAny_bind (wpAny_newTuple ?_)
  have hsz : h₃.objs.size = hp.objs.size := by rw [hs₃.1, hs₂.1, hs₁.1]
  have hz₃ : IsZipHeld h₃ z TI TO T true := hs₃.extBut _ _ S.zi2 (hs₂.extBut _ _ S.zi1 hz₁)
  have hk : ∀ c o, c ≠ z → c ≠ i1 → c ≠ i2 → hp.get? c = some o → h₃.get? c = some o := fun c o c1 c2 c3 e => hs₃.extBut _ _ c3 (hs₂.extBut _ _ c2 (hs₁.extBut _ _ c1 e))
  have sn1' : St1 (i + 1) h₃ := D1.over sn1 hs₃ S.sep2_1
  refine wpAny_pure ⟨_, rfl, ?_⟩
  have hp4 : IsPair (h₃.push { cls := .type "tuple", data := .seq #[x, y] }) h₃.objs.size x y := Heap.get?_push_size _ rfl
  have hz4 : (h₃.push { cls := .type "tuple", data := .seq #[x, y] }).objs.size = h₃.objs.size + 1 := Heap.size_push ..
  show Q (.ref h₃.objs.size) _
  rw [hsz] at hp4 hz4 ⊢
  exact hQ x y _ tk2 hx hy (Heap.get?_push_of_some _ hz₃) (D1.frame _ _ _ sn1' fun b _ o e => Heap.get?_push_of_some _ e) (D2.frame _ _ _ sn2 fun b _ o e => Heap.get?_push_of_some _ e) hp4 hz4 fun c o c1 c2 c3 e => Heap.get?_push_of_some _ (hk c o c1 c2 c3 e)
theorem next_end_held {Q : Fin → Shared → Prop} (S : ZipSep2 z TI TO i1 i2 fp1 fp2) (D1 : Draws prog w A i1 fp1 n1 P1 St1) (D2 : Draws prog w A i2 fp2 n2 P2 St2)
    (hz : IsZipHeld s.heap z TI TO T f) (hT : s.heap.get? T = some oT) (hTI : IsPair s.heap TI (.ref i1) (.ref i2)) (st1 : St1 i s.heap) (st2 : St2 i s.heap) (hle1 : i ≤ n1) (hle2 : i ≤ n2) (hend : i = n1 ∨ i = n2)
    (hE : ∀ h' tk e, (∀ c o, c ≠ z → c ≠ i1 → c ≠ i2 → s.heap.get? c = some o → h'.get? c = some o) → (∃ o, h'.get? e = some o ∧ o.cls = .type "StopIteration") → E (.ref e) { s with heap := h', toks := tk }) :
    wpAny (model prog w) A (Builtin.«zip.__next__» ⟨[.ref z], []⟩) Q E s := by
  obtain ⟨hp, g, d, tk0, os⟩ := s
  show wpAny _ _ (field (.ref z) 2 >>= _) _ _ _
  refine wpAny_bind (wpAny_field hz rfl (x := .bool false) rfl ?_)
  show wpAny _ _ (field (.ref z) 3 >>= _) _ _ _
  refine wpAny_bind (wpAny_field hz rfl (x := .ref TI) rfl ?_)
  refine wpAny_bind (wpAny_seqItems hTI rfl ?_)
  show wpAny _ _ (Builtin.SmallTypes.ownedTupleIsFree (.ref z) >>= _) _ _ _
  refine wpAny_bind (wpAny_tupleHeld_zip hz hT fun h₁ hz₁ hs₁ => ?_)
  replace hs₁ : Heap.SameBut z hp h₁ := hs₁
  simp only [Bool.false_eq_true, if_false]
  refine wpAny_bind ?_
  rw [← Array.forIn_toList]
  simp only [List.forIn_cons, List.forIn_nil]
  refine wpAny_bind (wpAny_bind (wpAny_holding ?_))
  show wpAny _ _ (Builtin.SmallTypes.nextOf (.ref i1) >>= _) _ _ ⟨h₁, g, d, tk0, os⟩
  by_cases hlt1 : i < n1
  · have hi2 : i = n2 := by omega
    refine wpAny_bind (D1.item i _ _ _ hlt1 (D1.over st1 hs₁ S.zf1) fun x h₂ tk1 hx sn1 hs₂ => wpAny_pure ?_)
    replace hs₂ : Heap.SameBut i1 h₁ h₂ := hs₂
    refine wpAny_pure ?_
    refine wpAny_bind (wpAny_bind (wpAny_holding ?_))
    show wpAny _ _ (Builtin.SmallTypes.nextOf (.ref i2) >>= _) _ _ ⟨h₂, g, d, tk1, os⟩
    refine wpAny_bind (D2.done ⟨h₂, g, d, tk1, os⟩ _ _ (by rw [← hi2]; exact D2.over (D2.over st2 hs₁ S.zf2) hs₂ S.sep1_2) fun h₃ e hs₃ he => ?_)
    replace hs₃ : Heap.ExtBut i2 h₂ h₃ := hs₃
    exact hE h₃ tk1 e (fun c o c1 c2 c3 x => hs₃ _ _ c3 (hs₂.extBut _ _ c2 (hs₁.extBut _ _ c1 x))) he
  · have hi1 : i = n1 := by omega
    refine wpAny_bind (D1.done ⟨h₁, g, d, tk0, os⟩ _ _ (by rw [← hi1]; exact D1.over st1 hs₁ S.zf1) fun h₂ e hs₂ he => ?_)
    replace hs₂ : Heap.ExtBut i1 h₁ h₂ := hs₂
    exact hE h₂ tk0 e (fun c o c1 c2 _ x => hs₂ _ _ c2 (hs₁.extBut _ _ c1 x)) he
theorem pyNext_item_held {Q : Option Value → Shared → Prop} (S : ZipSep2 z TI TO i1 i2 fp1 fp2) (D1 : Draws prog w A.in1 i1 fp1 n1 P1 St1) (D2 : Draws prog w A.in1 i2 fp2 n2 P2 St2)
    (hz : IsZipHeld s.heap z TI TO T f) (hT : s.heap.get? T = some oT) (hTI : IsPair s.heap TI (.ref i1) (.ref i2)) (st1 : St1 i s.heap) (st2 : St2 i s.heap) (hlt1 : i < n1) (hlt2 : i < n2)
    (hQ : ∀ x y h' tk, P1 i x → P2 i y → IsZipHeld h' z TI TO T true → St1 (i + 1) h' → St2 (i + 1) h' → IsPair h' s.heap.objs.size x y → h'.objs.size = s.heap.objs.size + 1 →
      (∀ c o, c ≠ z → c ≠ i1 → c ≠ i2 → s.heap.get? c = some o → h'.get? c = some o) → Q (some (.ref s.heap.objs.size)) { s with heap := h', toks := tk }) : wpAny (model prog w) A (pyNext (.ref z)) Q E s := by
  have hTy : s.TypeIs (.ref z) "zip" := ⟨_, hz, rfl⟩
  unfold pyNext
  exact wpAny_bind (wpAny_attempt (wpAny_callSpecial?_slot (name := Str.ofString "__next__") hTy F.slot_zip_next
    (wpAny_call_entry F.slot_zip_next hTy F.entry_zip_next
      (next_item_held S D1 D2 hz hT hTI st1 st2 hlt1 hlt2 fun x y h' tk a0 a1 a3 a4 a5 a6 a7 a8 => wpAny_pure (hQ x y h' tk a0 a1 a3 a4 a5 a6 a7 a8)) (F.args_zip_next_1 _))))
theorem pyNext_end_held {Q : Option Value → Shared → Prop} (S : ZipSep2 z TI TO i1 i2 fp1 fp2) (D1 : Draws prog w A.in1 i1 fp1 n1 P1 St1) (D2 : Draws prog w A.in1 i2 fp2 n2 P2 St2)
    (hz : IsZipHeld s.heap z TI TO T f) (hT : s.heap.get? T = some oT) (hTI : IsPair s.heap TI (.ref i1) (.ref i2)) (st1 : St1 i s.heap) (st2 : St2 i s.heap) (hle1 : i ≤ n1) (hle2 : i ≤ n2) (hend : i = n1 ∨ i = n2)
    (hQ : ∀ h' tk, (∀ c o, c ≠ z → c ≠ i1 → c ≠ i2 → s.heap.get? c = some o → h'.get? c = some o) → Q none { s with heap := h', toks := tk }) : wpAny (model prog w) A (pyNext (.ref z)) Q E s := by
  have hTy : s.TypeIs (.ref z) "zip" := ⟨_, hz, rfl⟩
  unfold pyNext
  refine wpAny_bind (wpAny_attempt (wpAny_callSpecial?_slot (name := Str.ofString "__next__") hTy F.slot_zip_next
    (wpAny_call_entry F.slot_zip_next hTy F.entry_zip_next (next_end_held S D1 D2 hz hT hTI st1 st2 hle1 hle2 hend fun h' tk e hk he => ?_) (F.args_zip_next_1 _))))
  obtain ⟨o, ho, hc⟩ := he
  refine wpAny_bind (wpAny_isInstance (T := "StopIteration") (b := true) ⟨o, ho, hc⟩ isSubtype_stop ?_)
  exact wpAny_pure (hQ _ _ hk)
end
theorem pairArg {prog : Program} {w : World} {z TI TO i1 i2 : Addr} {fp1 fp2 : List Addr} {n1 n2 : Nat} {P1 P2 : Nat → Value → Prop} {St1 St2 : Nat → Heap → Prop} (S : ZipSep2 z TI TO i1 i2 fp1 fp2)
    (D1 : ∀ A : Around, A.handled = none → Draws prog w A i1 fp1 n1 P1 St1) (D2 : ∀ A : Around, A.handled = none → Draws prog w A i2 fp2 n2 P2 St2) (l1 : ∀ h, St1 0 h → ∀ b ∈ fp1, ∃ o, h.get? b = some o) (l2 : ∀ h, St2 0 h → ∀ b ∈ fp2, ∃ o, h.get? b = some o)
    (m1 : ∀ i h, St1 i h → i1 < h.objs.size) (m2 : ∀ i h, St2 i h → i2 < h.objs.size) (f1 : ∀ h h', St1 0 h → (∀ b o, h.get? b = some o → h'.get? b = some o) → St1 0 h') (f2 : ∀ h h', St2 0 h → (∀ b o, h.get? b = some o → h'.get? b = some o) → St2 0 h') :
    PairArg prog w "zip" z (z :: TI :: TO :: (fp1 ++ fp2)) [z, TO, i1, i2] (min n1 n2) (fun i k v => P1 i k ∧ P2 i v)
      (fun h => IsZip h z TI TO .none ∧ IsPair h TI (.ref i1) (.ref i2) ∧ (∃ a b, IsPair h TO a b) ∧ St1 0 h ∧ St2 0 h) where
  type := fun s ok => ⟨_, ok.1, rfl⟩
  notDict := by decide
  keep := fun h h' ok hk => by
    obtain ⟨hz, hTI, ⟨a, b, hTO⟩, h1, h2⟩ := ok
    exact ⟨hk _ _ hz, hk _ _ hTI, ⟨a, b, hk _ _ hTO⟩, f1 _ _ h1 hk, f2 _ _ h2 hk⟩
  there := fun h ok b hb => by
    obtain ⟨hz, hTI, ⟨a, c, hTO⟩, h1, h2⟩ := ok
    simp only [List.mem_cons, List.mem_append] at hb
    rcases hb with rfl | rfl | rfl | hb | hb
    · exact ⟨_, hz⟩
    · exact ⟨_, hTI⟩
    · exact ⟨_, hTO⟩
    · exact l1 h h1 b hb
    · exact l2 h h2 b hb
  sub := fun b hb => by
    simp only [List.mem_cons, List.not_mem_nil, or_false] at hb
    simp only [List.mem_cons, List.mem_append]
    rcases hb with rfl | rfl | rfl | rfl
    · exact .inl rfl
    · exact .inr (.inr (.inl rfl))
    · exact .inr (.inr (.inr (.inl S.mem1)))
    · exact .inr (.inr (.inr (.inr S.mem2)))
  noKeys := fun A s Q E hA ok h => getAttrOr_miss_zip ok.1 rfl rfl rfl zip_no_keys (by decide +kernel) hA h
  iter := fun A s d Q E hA ok hd hdf h => by
    obtain ⟨hz, hTI, ⟨a, b, hTO⟩, h1, h2⟩ := ok
    simp only [List.mem_cons, List.mem_append, not_or] at hdf
    obtain ⟨dz, dTI, dTO, df1, df2⟩ := hdf
    have D1 := D1 A.in1 hA
    have D2 := D2 A.in1 hA
    refine wpAny_pyIter_zip hz (h z [z, TO, i1, i2] (fun i h => IsPair h TI (.ref i1) (.ref i2) ∧ St1 i h ∧ St2 i h ∧
      ((IsZip h z TI TO .none ∧ ∃ a b, IsPair h TO a b) ∨ ∃ T f oT, IsZipHeld h z TI TO T f ∧ h.get? T = some oT ∧ T ≠ z ∧ T ≠ i1 ∧ T ≠ i2 ∧ T ≠ d)) s.heap s.toks ?_
      ⟨hTI, h1, h2, .inl ⟨hz, a, b, hTO⟩⟩ (fun _ _ e => e) fun b hb => .inl hb)
    exact {
      off := fun hm => by
        simp only [List.mem_cons, List.not_mem_nil, or_false] at hm
        rcases hm with e | e | e | e
        · exact dz e
        · exact dTO e
        · exact df1 (e ▸ S.mem1)
        · exact df2 (e ▸ S.mem2)
      frame := fun i h₁ h₂ st hk => by
        obtain ⟨hTI, h1, h2, hz⟩ := st
        refine ⟨hk _ _ (Ne.symm dTI) hTI, D1.frame _ _ _ h1 fun b hb o e => hk b o (fun q => df1 (q ▸ hb)) e, D2.frame _ _ _ h2 fun b hb o e => hk b o (fun q => df2 (q ▸ hb)) e, ?_⟩
        rcases hz with ⟨hz, a, b, hTO⟩ | ⟨T, f, oT, hz, hT, r1, r2, r3, r4⟩
        · exact .inl ⟨hk _ _ (Ne.symm dz) hz, a, b, hk _ _ (Ne.symm dTO) hTO⟩
        · exact .inr ⟨T, f, oT, hk _ _ (Ne.symm dz) hz, hk _ _ r4 hT, r1, r2, r3, r4⟩
      item := fun i s₁ Q₁ E₁ hi st hds hQ => by
        obtain ⟨hTI, h1, h2, hz⟩ := st
        have hix : i < n1 := Nat.lt_of_lt_of_le hi (Nat.min_le_left ..)
        have hiy : i < n2 := Nat.lt_of_lt_of_le hi (Nat.min_le_right ..)
        have lt : ∀ {c o}, s₁.heap.get? c = some o → s₁.heap.objs.size ≠ c := fun e => Nat.ne_of_gt (Heap.lt_size e)
        have k1 : s₁.heap.objs.size ≠ i1 := Nat.ne_of_gt (m1 _ _ h1)
        have k2 : s₁.heap.objs.size ≠ i2 := Nat.ne_of_gt (m2 _ _ h2)
        rcases hz with ⟨hz, a, b, hTO⟩ | ⟨T, f, oT, hz, hT, r1, r2, r3, r4⟩
        · refine wpAny_pyNext_zipD2_item S D1 D2 hz hTI hTO h1 h2 hix hiy fun x y h' tk b1 b2 a1 a2 a3 a4 a5 a6 hk => ?_
          exact hQ s₁.heap.objs.size _ _ h' tk ⟨b1, b2⟩ (.inl ⟨_, a5, rfl, _, rfl⟩)
            ⟨hk _ _ S.TIz S.TITO S.TIi1 S.TIi2 hTI, a3, a4, .inr ⟨s₁.heap.objs.size, false, _, a1, a5, lt hz, k1, k2, Nat.ne_of_gt hds⟩⟩
            fun c o hc e => hk c o (fun x => hc (by simp [x])) (fun x => hc (by simp [x])) (fun x => hc (by simp [x])) (fun x => hc (by simp [x])) e
        · refine pyNext_item_held S D1 D2 hz hT hTI h1 h2 hix hiy fun x y h' tk b1 b2 a1 a3 a4 a5 a6 hk => ?_
          exact hQ s₁.heap.objs.size _ _ h' tk ⟨b1, b2⟩ (.inl ⟨_, a5, rfl, _, rfl⟩)
            ⟨hk _ _ S.TIz S.TIi1 S.TIi2 hTI, a3, a4, .inr ⟨T, true, oT, a1, hk _ _ r1 r2 r3 hT, r1, r2, r3, r4⟩⟩
            fun c o hc e => hk c o (fun x => hc (by simp [x])) (fun x => hc (by simp [x])) (fun x => hc (by simp [x])) e
      done := fun s₁ Q₁ E₁ st hQ => by
        obtain ⟨hTI, h1, h2, hz⟩ := st
        have hend : min n1 n2 = n1 ∨ min n1 n2 = n2 := by omega
        rcases hz with ⟨hz, a, b, hTO⟩ | ⟨T, f, oT, hz, hT, r1, r2, r3, r4⟩
        · exact wpAny_pyNext_zipD2_end S D1 D2 hz hTI hTO h1 h2 (Nat.min_le_left ..) (Nat.min_le_right ..) hend fun h' tk hk => hQ h' tk fun c o hc e => hk c o (fun x => hc (by simp [x])) (fun x => hc (by simp [x])) (fun x => hc (by simp [x])) (fun x => hc (by simp [x])) e
        · exact pyNext_end_held S D1 D2 hz hT hTI h1 h2 (Nat.min_le_left ..) (Nat.min_le_right ..) hend fun h' tk hk => hQ h' tk fun c o hc e => hk c o (fun x => hc (by simp [x])) (fun x => hc (by simp [x])) (fun x => hc (by simp [x])) e }
end ZD

namespace VM
open PySem PySem.Spec PyProof.Rows L2 TL VL
open Classical
noncomputable section
/-! ## dict(zip(a text, a tuple)) -/
def zipKV (x : Str) (ys : List V) : List (Key × V) := List.zipWith (fun c v => ((.inr ⟨#[c]⟩ : Key), v)) x.cps.toList ys
def zipKD (x : Str) (ys : List D) : List (Key × D) := List.zipWith (fun c v => ((.inr ⟨#[c]⟩ : Key), v)) x.cps.toList ys
def mergeD (kvs more : List (Key × D)) : List (Key × D) := more.foldl (fun acc kv => putD acc kv.1 kv.2) kvs
def tDZ (K : PySem.W.Frag) (t : TA) : TE := fun σ H Q => t σ H fun vs H2 => ∃ xs tp ys, vs = [.str xs, .ref tp] ∧ SqT K H2 tp ys ∧ ∀ p, H2 p = none → Q (.ref p) (upd H2 p (.dK (mergeK [] (zipKV xs ys))))
theorem kv_zip : ∀ (cs : List Nat) {vs : List V} {us : List Value}, Vals vs us → KV (List.zipWith (fun c v => ((.inr ⟨#[c]⟩ : Key), v)) cs vs) (List.zipWith (fun c u => ((.inr ⟨#[c]⟩ : Key), u)) cs us)
  | [], _, _, _ => by simp only [List.zipWith_nil_left]; exact .nil
  | c :: cs, _, _, .nil => .nil
  | c :: cs, _, _, .cons r rr => .cons ⟨rfl, r⟩ (kv_zip cs rr)
theorem pe_dictZip {X : Cx} {a b : Expr} {t : TA} {p p2 pos pos2 : Pos} (hc : X.calm = true) (hg : Gl X "dict") (hm : X.mg "dict" = none) (hg2 : Gl X "zip") (hm2 : X.mg "zip" = none) (ha : PA X [a, b] t)
    (hs : starEach [a, b] X.env = (false, eval a X.env) :: starEach [b] X.env := by rfl) (hpl : (backTo pos2 (starEach [b] X.env)).any (·.1) = false := by rfl)
    (na : starEach [.Call (.Name "zip" p2) [a, b] [] pos2] X.env = (false, eval (.Call (.Name "zip" p2) [a, b] [] pos2) X.env) :: starEach [] X.env := by rfl) : PE X (.Call (.Name "dict" p) [.Call (.Name "zip" p2) [a, b] [] pos2] [] pos) (tDZ X.K t) := by
  refine ⟨fun pins s σ H Q I h => ?_⟩
  refine Call_ (ld_blt I hg hm PyProof.Rows.boot_dict (PyProof.Rows.callWith_type1 (args_cons (Call_ (ld_blt I hg2 hm2 PyProof.Rows.boot_zip (PyProof.Rows.callWith_type1 (thn (ha.run pos2 pins s σ H _ I h) fun us s1 ⟨vs, H1, I1, r1, xs, tp, ys, ev, hq, q⟩ => ?_) hs hpl))) na) na))
  subst ev
  cases r1 with
  | cons r rr =>
    cases rr with
    | cons r' rr =>
      cases rr
      cases r'
      obtain ⟨tk, rfl⟩ := (show ∃ t, _ = Value.str xs t from r)
      obtain ⟨its, rv, ht, hz⟩ := I1.tuple hq
      have hlt : tp < s1.heap.objs.size := by obtain ⟨o, ho, _⟩ := ht; exact Heap.lt_size ho
      refine zip_begins2 (begins_text xs tk) (begins_tuple tp its.toArray) trivial ht fun h' hZ hTI hTO g1 g2 hsz hk => ?_
      refine args_nil ?_
      have S := zip_sep2 (N := s1.heap.objs.size) (fp1 := []) (fp2 := [tp]) (fun _ h => nomatch h) (fun b hb => by rw [List.mem_singleton.mp hb]; exact hlt)
      have hne : tp ≠ s1.heap.objs.size + 1 := Nat.ne_of_lt (Nat.lt_succ_of_lt hlt)
      have P := ZD.pairArg (prog := X.prog) (w := X.w) S (fun A hA => Draws.text hA s1.heap.objs.size xs tk) (fun A hA => Draws.tuple hA (s1.heap.objs.size + 1) tp hne its.toArray)
        (fun h ⟨o, ho, _⟩ b hb => by rw [List.mem_singleton.mp hb]; exact ⟨o, ho⟩) (fun h ⟨⟨o, ho, _⟩, o2, ho2, _⟩ b hb => by
          rcases List.mem_cons.mp hb with e | e
          · rw [e]; exact ⟨o, ho⟩
          · rw [List.mem_singleton.mp e]; exact ⟨o2, ho2⟩) (fun i h ⟨o, ho, _⟩ => Heap.lt_size ho) (fun i h ⟨⟨o, ho, _⟩, _⟩ => Heap.lt_size ho)
        (fun h h2 st k => let ⟨o, e, r⟩ := st; ⟨o, k _ _ e, r⟩) (fun h h2 st k => ⟨st.1.at fun o e => k _ o e, st.2.at fun o e => k _ o e⟩)
      refine PySem.call_dict_pairs (knd := mixKind X.prog X.w) (kvs := List.zipWith (fun c u => ((.inr ⟨#[c]⟩ : Key), u)) xs.cps.toList its) P (I1.ok.hd hc) ?_ ?_ ?_ fun h2 tk2 hd hk2 => ?_
      · exact ⟨hZ, hTI, ⟨_, _, hTO⟩, ⟨_, g1, rfl, rfl⟩, ⟨_, g2, rfl, rfl⟩, (show s1.heap.IsTuple tp its.toArray from ht).at fun o e => hk _ o e⟩
      · refine ⟨by rw [List.length_zipWith]; simp, fun i key v ⟨h1, h2⟩ => ?_⟩
        obtain ⟨c, u, e1, rfl⟩ := h1
        refine ⟨.inr ⟨#[c]⟩, ?_, mixKind_str X.prog X.w _ u⟩
        have e1' : xs.cps.toList[i]? = some c := by simpa using e1
        have e2' : its[i]? = some v := by simpa using h2
        rw [List.getElem?_zipWith, e1', e2']
      · have := rv.length
        have h1 : min xs.cps.size its.toArray.size ≤ its.length := by simp; omega
        omega
      · have hb : (s1.heap.objs.size + 5 == sysModules) = false := beq_eq_false_iff_ne.mpr (Nat.ne_of_gt (Nat.lt_of_lt_of_le I1.big (Nat.le_add_right _ _)))
        have hlen : (mergeK [] (zipKV xs ys)).length ≤ sizeLine := by
          refine Nat.le_trans (length_mergeK _ []) ?_
          rw [List.length_nil, Nat.zero_add]
          unfold zipKV
          rw [List.length_zipWith]
          have := rv.length
          omega
        have keep : ∀ c o, s1.heap.get? c = some o → h2.get? c = some o := fun c o e => hk2 c o (fun hm => by
          have hcl := Heap.lt_size e
          simp only [List.mem_cons, List.not_mem_nil, or_false] at hm
          rcases hm with q | q | q | q
          · rw [q] at hcl; exact Nat.not_lt.mpr (Nat.le_add_right _ _) hcl
          · rw [q] at hcl; exact Nat.not_lt.mpr (Nat.le_add_right _ _) hcl
          · rw [q] at hcl; exact Nat.lt_irrefl _ hcl
          · rw [q] at hcl; exact Nat.not_lt.mpr (Nat.le_add_right _ _) hcl) (hk c o e)
        simp only [hsz] at hd ⊢
        exact ⟨.ref (s1.heap.objs.size + 5), upd H1 (s1.heap.objs.size + 5) (.dK (mergeK [] (zipKV xs ys))), I1.laid (t' := tk2) keep (Nat.le_add_right _ _) (show ObjOk X.prog X.w _ _ _ (.dK (mergeK [] (zipKV xs ys))) from ⟨hlen, hb, merged [] _, KV.merge (kv_zip _ rv) .nil, hd⟩), rfl, q _ (I1.hok.fresh (Nat.le_add_right _ _))⟩
theorem repkv_zip {K : PySem.W.Frag} {θ : List Addr} {H : Hp} : ∀ (cs : List Nat) {ds : List D} {vs : List V}, Reps K θ H ds vs → RepKV K θ H (List.zipWith (fun c v => ((.inr ⟨#[c]⟩ : Key), v)) cs ds) (List.zipWith (fun c v => ((.inr ⟨#[c]⟩ : Key), v)) cs vs)
  | [], _, _, _ => rfl
  | c :: cs, [], _, r => by unfold Reps at r; subst r; rfl
  | c :: cs, d :: ds, _, r => by
    unfold Reps at r
    obtain ⟨v, vs', rfl, r1, r2⟩ := r
    exact ⟨v, _, rfl, r1, repkv_zip cs r2⟩
theorem repkv_merge {K : PySem.W.Frag} {θ : List Addr} {H : Hp} : ∀ {more : List (Key × D)} {moreV : List (Key × V)} {kvs : List (Key × D)} {vs : List (Key × V)}, RepKV K θ H kvs vs → RepKV K θ H more moreV → RepKV K θ H (mergeD kvs more) (mergeK vs moreV)
  | [], _, _, _, r, r2 => by cases (show _ = [] from r2); exact r
  | (k, d) :: more, _, _, _, r, r2 => by
    obtain ⟨v, vs', rfl, r1, r2⟩ := r2
    exact (show RepKV K θ H (mergeD (putD _ k d) more) (mergeK (putK _ k v) vs') from repkv_merge (RepKV.put r k r1) r2)
@[simp] def dzK (dl : List D) (m : List Ob) : Res D := match dl with
  | [.str x, .tup ys] => .ok (.obj m.length) (m ++ [.dK (mergeD [] (zipKD x ys))])
  | _ => .bad
@[simp] def dzE (as : MA) (ds : Slots) (ms : List Ob) : Res D := (as ds ms).bind dzK
theorem s_dz {X : Cx} {a b : Expr} {as : MA} {p p2 pos pos2 : Pos} (hc : X.calm = true) (hg : Gl X "dict") (hm : X.mg "dict" = none) (hg2 : Gl X "zip") (hm2 : X.mg "zip" = none) (ha : SA X [a, b] as)
    (hs : starEach [a, b] X.env = (false, eval a X.env) :: starEach [b] X.env := by rfl) (hpl : (backTo pos2 (starEach [b] X.env)).any (·.1) = false := by rfl)
    (na : starEach [.Call (.Name "zip" p2) [a, b] [] pos2] X.env = (false, eval (.Call (.Name "zip" p2) [a, b] [] pos2) X.env) :: starEach [] X.env := by rfl) : SE X (.Call (.Name "dict" p) [.Call (.Name "zip" p2) [a, b] [] pos2] [] pos) (dzE as) := ⟨fun B ds ms Q h =>
  WE.pe (pe_dictZip hc hg hm hg2 hm2 pa_can hs hpl na) fun σ H θ S L => (ha.run B ds ms _ (wp_bind.mp h)).bind S L fun dl m vs H1 more q r im S1 L1 => by
    unfold dzK at q
    split at q
    · rename_i x ys
      unfold Reps at r
      obtain ⟨v1, vs1, rfl, r1, r2⟩ := r
      unfold Reps at r2
      obtain ⟨v2, vs2, rfl, r2, r3⟩ := r2
      unfold Reps at r3
      subst r3
      cases rep_str r1
      obtain ⟨tp, ws, rfl, sq, rs⟩ := rep_tup r2
      have q : Q (.obj m.length) (m ++ [.dK (mergeD [] (zipKD x ys))]) := q
      refine ⟨x, tp, ws, rfl, sq, fun d hd => ?_⟩
      have im2 : ImmP H1 (upd H1 d (.dK (mergeK [] (zipKV x ws)))) := ImmP.new hd
      exact ⟨.obj m.length, m ++ [.dK (mergeD [] (zipKD x ys))], more ++ [d], by rw [← List.append_assoc]; exact mk_obj (by rw [← S1.len]; simp), im.trans im2, by
        rw [← List.append_assoc]
        exact S1.alloc (ob := .dK (mergeD [] (zipKD x ys))) hd ⟨_, upd_same, RepKV.mono (Le.app _ _) im2 _ _ (repkv_merge (vs := []) rfl (repkv_zip _ rs))⟩, q⟩
    · exact q.elim⟩
end
end VM

namespace VM
open PySem PySem.Spec PyProof.Rows L2 TL VL
open Classical
noncomputable section
/-! ## < of data: lists, tuples, to any depth -/
def rLtD (f : PyData → PyData → Bool) (K : PySem.W.Frag) : R2 := fun x y H Q => ∃ d e, Dp K H x d ∧ Dp K H y e ∧ PySem.W.alike d e = true ∧ d ≠ .none ∧ d.depth ≤ 63 ∧ Q (.bl (f d e)) H
section
variable {X : Cx}
theorem op_ltD (hu : X.A.units + 64 < cLine) : OpR X (compareOp .Lt) (rLtD PySem.W.dataLt X.K) := by
  intro pins s σ H x y v u Q I rx ry h
  obtain ⟨d, e, hd, he, sd, se, hz, q⟩ := h
  obtain ⟨as, r1⟩ := Dp.reads I d x v hd rx
  obtain ⟨bs, r2⟩ := Dp.reads I e y u he ry
  exact PySem.W.lt_data r1 r2 sd se (by omega) ⟨.bl _, H, I, rfl, q⟩
theorem op_gtD (hu : X.A.units + 64 < cLine) : OpR X (compareOp .Gt) (rLtD (fun d e => PySem.W.dataLt e d) X.K) := by
  intro pins s σ H x y v u Q I rx ry h
  obtain ⟨d, e, hd, he, sd, se, hz, q⟩ := h
  obtain ⟨as, r1⟩ := Dp.reads I d x v hd rx
  obtain ⟨bs, r2⟩ := Dp.reads I e y u he ry
  exact PySem.W.gt_data r1 r2 sd se (by omega) ⟨.bl _, H, I, rfl, q⟩
theorem op_leD (hu : X.A.units + 64 < cLine) : OpR X (compareOp .LtE) (rLtD (fun d e => !PySem.W.dataLt e d) X.K) := by
  intro pins s σ H x y v u Q I rx ry h
  obtain ⟨d, e, hd, he, sd, se, hz, q⟩ := h
  obtain ⟨as, r1⟩ := Dp.reads I d x v hd rx
  obtain ⟨bs, r2⟩ := Dp.reads I e y u he ry
  exact PySem.W.le_data r1 r2 sd se (by omega) ⟨.bl _, H, I, rfl, q⟩
theorem op_geD (hu : X.A.units + 64 < cLine) : OpR X (compareOp .GtE) (rLtD (fun d e => !PySem.W.dataLt d e) X.K) := by
  intro pins s σ H x y v u Q I rx ry h
  obtain ⟨d, e, hd, he, sd, se, hz, q⟩ := h
  obtain ⟨as, r1⟩ := Dp.reads I d x v hd rx
  obtain ⟨bs, r2⟩ := Dp.reads I e y u he ry
  exact PySem.W.ge_data r1 r2 sd se (by omega) ⟨.bl _, H, I, rfl, q⟩
end
/-- what == and < take -/
structure EqW (d : D) : Prop where
  py : ∀ ms, Py ms d (pyD d)
  dp : (pyD d).depth ≤ 60
  cl : (pyD d).canLay0 = true
theorem EqW.of {d : D} (h : Shw d) : EqW d := ⟨h.py, h.dp, h.cl⟩
theorem imV_pyW {ms : List Ob} {d e : D} (h : imV ms d = some e) (s : EqW e) : Py ms d (pyD e) := by
  cases d with
  | obj k =>
    simp only [imV] at h
    split at h
    · rename_i xs hk
      cases h
      have := s.py ms
      cases this with
      | rol ha => exact .lst hk ha
    · cases h
  | _ => cases h; exact s.py ms
theorem shaped_ofW {d : D} (h : EqW d) : SeqAt.shaped (pyD d) = true := by
  unfold SeqAt.shaped
  rw [h.cl, Bool.true_and]
  exact decide_eq_true (Nat.le_trans h.dp (by omega))
@[simp] def cmpB (gi : Int → Int → Bool) (g : PyData → PyData → Bool) (ms : List Ob) (d e : D) : Option Bool := match d, e with
  | .int i, .int j => some (gi i j)
  | d, e => match imV ms d, imV ms e with
    | some d', some e' => if EqW d' ∧ EqW e' ∧ PySem.W.alike (pyD d') (pyD e') = true ∧ pyD d' ≠ .none then some (g (pyD d') (pyD e')) else none
    | _, _ => none
theorem cmpB_gen {gi : Int → Int → Bool} {g : PyData → PyData → Bool} {ms : List Ob} {d e : D} {b : Bool} (h : cmpB gi g ms d e = some b) : (∃ i j, d = .int i ∧ e = .int j ∧ b = gi i j) ∨
    ∃ d' e', imV ms d = some d' ∧ imV ms e = some e' ∧ EqW d' ∧ EqW e' ∧ PySem.W.alike (pyD d') (pyD e') = true ∧ pyD d' ≠ .none ∧ b = g (pyD d') (pyD e') := by
  unfold cmpB at h
  split at h
  · exact .inl ⟨_, _, rfl, rfl, (Option.some.inj h).symm⟩
  · split at h
    · rename_i h1 h2
      split at h
      · rename_i c
        exact .inr ⟨_, _, h1, h2, c.1, c.2.1, c.2.2.1, c.2.2.2, (Option.some.inj h).symm⟩
      · cases h
    · cases h
theorem so_cmp {X : Cx} {op : CmpOp} {gi : Int → Int → Bool} {g : PyData → PyData → Bool} (hi : ∀ {B : Bs} {ms : List Ob} {i j : Int} {Q : D → List Ob → Prop}, Q (.bl (gi i j)) ms → WO X B ms (compareOp op) (.int i) (.int j) Q) (hd : OpR X (compareOp op) (rLtD g X.K)) :
    SO X (compareOp op) (fun d e ms => (cmpB gi g ms d e).map fun b => (.bl b, ms)) := ⟨fun B ms d e Q h => by
  cases hb : cmpB gi g ms d e with
  | none => simp only [hb] at h; exact h.elim
  | some b =>
    simp only [hb] at h
    rcases cmpB_gen hb with ⟨i, j, rfl, rfl, rfl⟩ | ⟨d', e', h1, h2, s1, s2, al, nn, rfl⟩
    · exact hi h
    · have z : (pyD d').depth ≤ 63 := Nat.le_trans s1.dp (by omega)
      exact WO.of hd fun H θ x y S r1 r2 => ⟨_, _, Py.dp S _ d x (imV_pyW h1 s1) r1, Py.dp S _ e y (imV_pyW h2 s2) r2, al, nn, z, pv_same S mk_bl h⟩⟩
@[simp] def opLtA (d e : D) (ms : List Ob) : Option (D × List Ob) := (cmpB (fun i j => decide (i < j)) PySem.W.dataLt ms d e).map fun b => (.bl b, ms)
@[simp] def opGtA (d e : D) (ms : List Ob) : Option (D × List Ob) := (cmpB (fun i j => decide (j < i)) (fun d e => PySem.W.dataLt e d) ms d e).map fun b => (.bl b, ms)
@[simp] def opLeA (d e : D) (ms : List Ob) : Option (D × List Ob) := (cmpB (fun i j => decide (i ≤ j)) (fun d e => !PySem.W.dataLt e d) ms d e).map fun b => (.bl b, ms)
@[simp] def opGeA (d e : D) (ms : List Ob) : Option (D × List Ob) := (cmpB (fun i j => decide (j ≤ i)) (fun d e => !PySem.W.dataLt d e) ms d e).map fun b => (.bl b, ms)
section
variable {X : Cx}
theorem so_ltA (hu : X.A.units + 64 < cLine) : SO X (compareOp .Lt) opLtA := so_cmp (fun h => wo_ltI h) (op_ltD hu)
theorem so_gtA (hu : X.A.units + 64 < cLine) : SO X (compareOp .Gt) opGtA := so_cmp (fun h => wo_gtI h) (op_gtD hu)
theorem so_leA (hu : X.A.units + 64 < cLine) : SO X (compareOp .LtE) opLeA := so_cmp (fun h => wo_leI h) (op_leD hu)
theorem so_geA (hu : X.A.units + 64 < cLine) : SO X (compareOp .GtE) opGeA := so_cmp (fun h => wo_geI h) (op_geD hu)
end
@[simp] def eqW (ms : List Ob) (d e : D) : Option Bool := match imV ms d, imV ms e with
  | some d', some e' => if EqW d' ∧ EqW e' then some (PyData.eqv (pyD d') (pyD e')) else none
  | _, _ => none
theorem eqW_gen {ms : List Ob} {d e : D} {b : Bool} (h : eqW ms d e = some b) : ∃ d' e', imV ms d = some d' ∧ imV ms e = some e' ∧ EqW d' ∧ EqW e' ∧ b = PyData.eqv (pyD d') (pyD e') := by
  unfold eqW at h
  split at h
  · rename_i h1 h2
    split at h
    · rename_i c; exact ⟨_, _, h1, h2, c.1, c.2, (Option.some.inj h).symm⟩
    · cases h
  · cases h
@[simp] def opEqA (d e : D) (ms : List Ob) : Option (D × List Ob) := (eqW ms d e).map fun b => (.bl b, ms)
@[simp] def opNeA (d e : D) (ms : List Ob) : Option (D × List Ob) := (eqW ms d e).map fun b => (.bl (!b), ms)
theorem so_eqA {X : Cx} (hu : X.A.units + 64 < cLine) : SO X (compareOp .Eq) opEqA := ⟨fun B ms d e Q h => by
  unfold opEqA at h
  cases hb : eqW ms d e with
  | none => rw [hb] at h; exact h.elim
  | some b =>
    rw [hb] at h
    obtain ⟨d', e', h1, h2, s1, s2, rfl⟩ := eqW_gen hb
    exact wo_eqD hu (imV_pyW h1 s1) (imV_pyW h2 s2) (shaped_ofW s1) (shaped_ofW s2) h⟩
theorem so_neA {X : Cx} (hu : X.A.units + 64 < cLine) : SO X (compareOp .NotEq) opNeA := ⟨fun B ms d e Q h => by
  unfold opNeA at h
  cases hb : eqW ms d e with
  | none => rw [hb] at h; exact h.elim
  | some b =>
    rw [hb] at h
    obtain ⟨d', e', h1, h2, s1, s2, rfl⟩ := eqW_gen hb
    exact wo_neD hu (imV_pyW h1 s1) (imV_pyW h2 s2) (shaped_ofW s1) (shaped_ofW s2) h⟩
theorem pyAll_ints (xs : List Int) : pyAll (xs.map D.int) = xs.map PyData.int := by
  rw [pyAll_map, List.map_map]; rfl
theorem eqw_ints (xs : List Int) : EqW (.rol (xs.map D.int)) := by
  have key : ∀ xs : List Int, (∀ ms, PyAll ms (xs.map D.int) (xs.map PyData.int)) ∧ PyData.depthAll (xs.map PyData.int) = 0 ∧ PyData.canLayAll0 (xs.map PyData.int) = true := fun xs => by
    induction xs with
    | nil => exact ⟨fun _ => .nil, rfl, rfl⟩
    | cons x xs ih =>
      refine ⟨fun ms => .cons (.int _) (ih.1 ms), ?_, ?_⟩
      · show max (PyData.depth (.int x)) (PyData.depthAll (xs.map PyData.int)) = 0
        rw [ih.2.1]; rfl
      · show (PyData.canLay0 (.int x) && PyData.canLayAll0 (xs.map PyData.int)) = true
        rw [ih.2.2]; rfl
  obtain ⟨a, b, c⟩ := key xs
  rw [← pyAll_ints] at b c
  refine ⟨fun ms => .rol (by have := a ms; rw [← pyAll_ints] at this; exact this), ?_, c⟩
  show PyData.depthAll _ + 1 ≤ 60
  rw [b]; decide
theorem eqv_ints : ∀ xs ys : List Int, PyData.eqv (.list (xs.map PyData.int)) (.list (ys.map PyData.int)) = decide (xs = ys)
  | [], [] => rfl
  | [], _ :: _ => rfl
  | _ :: _, [] => rfl
  | x :: xs, y :: ys => by
    have ih := eqv_ints xs ys
    have e : PyData.eqv (.list ((x :: xs).map PyData.int)) (.list ((y :: ys).map PyData.int)) = ((x == y) && PyData.eqv (.list (xs.map PyData.int)) (.list (ys.map PyData.int))) := rfl
    rw [e, ih]
    by_cases h : x = y <;> simp [h]
theorem lt_ints (xs ys : List Int) : PySem.W.dataLt (.list (xs.map PyData.int)) (.list (ys.map PyData.int)) = decide (xs < ys) := by
  rw [PySem.W.dataLt_list]
  exact PySem.W.dataLt_ints xs ys
theorem alikeAll_ints : ∀ xs ys : List Int, PySem.W.alikeAll (xs.map PyData.int) (ys.map PyData.int) = true
  | [], _ => by simp only [List.map_nil, PySem.W.alikeAll]
  | _ :: _, [] => by simp only [List.map_nil, List.map_cons, PySem.W.alikeAll]
  | x :: xs, y :: ys => by
    simp only [List.map_cons, PySem.W.alikeAll, PySem.W.alike, Bool.true_and]
    exact alikeAll_ints xs ys
end
end VM

namespace VM
open PySem PySem.Spec PyProof.Rows L2 TL VL
open Classical
noncomputable section
/-! ## a text's index -/
@[simp] def mIndexS : MM
  | .str x, [.str y], ms => match PySem.Builtin.Str.occurrences x y 0 x.length 1 with
    | i :: _ => some (.int (i : Nat), ms)
    | [] => none
  | _, _, _ => none
theorem m_indexS {X : Cx} : ∀ B ms d dl Q, owp (mIndexS d dl ms) Q → WM X B ms "str.index" d dl Q := fun B ms d dl Q h => by
  unfold mIndexS at h
  split at h
  · split at h
    · rename_i x y _ i rest ho
      exact WM.of mt_sindex fun H θ z vs S r r0 => by
        obtain ⟨v, rfl, r1⟩ := reps1 r0
        exact ⟨x, y, i, rest, rep_str r, by rw [rep_str r1], ho, pv_same S mk_int h⟩
    · exact h.elim
  · exact h.elim
def abcI (a : Nat) : Nat := a - 97
theorem abc_index {a : Nat} (h : a ∈ [97, 98, 99]) : ∃ rest, PySem.Builtin.Str.occurrences (Str.ofString "abc") (mkS [a]) 0 (Str.ofString "abc").length 1 = abcI a :: rest := by
  simp only [List.mem_cons, List.not_mem_nil, or_false] at h
  rcases h with rfl | rfl | rfl
  · exact ⟨[], by decide +kernel⟩
  · exact ⟨[], by decide +kernel⟩
  · exact ⟨[], by decide +kernel⟩
theorem mIndexS_abc {a : Nat} (h : a ∈ [97, 98, 99]) (ms : List Ob) : mIndexS (.str (Str.ofString "abc")) [dS [a]] ms = some (.int (abcI a : Nat), ms) := by
  obtain ⟨r, e⟩ := abc_index h
  simp only [mIndexS, e]
theorem ltr_abc {L a : Nat} (h : a ∈ ltr L) : a ∈ [97, 98, 99] := List.mem_of_mem_take h
theorem abcI_lt {L a : Nat} (h : a ∈ ltr L) : abcI a < L := by
  unfold ltr at h
  unfold abcI
  match L with
  | 0 => simp at h
  | 1 => simp at h; omega
  | 2 => simp at h; omega
  | n + 3 => simp at h; omega
/-! ## a dict of letters -/
theorem keyD_ne {a b : Nat} (h : a ≠ b) : ¬ ((.inr (mkS [a]) : Key) = .inr (mkS [b])) := fun e => h (by have := mkS_inj (Sum.inr.inj e); simpa using this)
/-- dict(zip("abc", ..)): the values of letters -/
theorem zipKD_abc (ds : List D) : mergeD [] (zipKD (Str.ofString "abc") ds) = List.zipWith (fun c v => ((.inr (mkS [c]) : Key), v)) [97, 98, 99] ds := by
  have h0 : zipKD (Str.ofString "abc") ds = List.zipWith (fun c v => ((.inr (mkS [c]) : Key), v)) [97, 98, 99] ds := rfl
  rw [h0]
  have n1 := keyD_ne (a := 97) (b := 98) (by decide)
  have n2 := keyD_ne (a := 97) (b := 99) (by decide)
  have n3 := keyD_ne (a := 98) (b := 99) (by decide)
  match ds with
  | [] => rfl
  | [x] => simp [mergeD, putD]
  | [x, y] => simp [mergeD, putD, n1]
  | x :: y :: z :: r => simp [mergeD, putD, n1, n2, n3]
theorem zipKD_val {ds : List D} {a : Nat} (h : a ∈ [97, 98, 99]) : valD (List.zipWith (fun c v => ((.inr (mkS [c]) : Key), v)) [97, 98, 99] ds) (.inr (mkS [a])) = ds[abcI a]? := by
  have n1 := keyD_ne (a := 97) (b := 98) (by decide)
  have n2 := keyD_ne (a := 97) (b := 99) (by decide)
  have n3 := keyD_ne (a := 98) (b := 99) (by decide)
  simp only [List.mem_cons, List.not_mem_nil, or_false] at h
  rcases h with rfl | rfl | rfl
  · match ds with
    | [] => rfl
    | x :: r => simp [valD, abcI]
  · match ds with
    | [] => rfl
    | [x] => simp [valD, abcI, n1]
    | x :: y :: r => simp [valD, abcI, n1]
  · match ds with
    | [] => rfl
    | [x] => simp [valD, abcI, n2]
    | [x, y] => simp [valD, abcI, n2, n3]
    | x :: y :: z :: r => simp [valD, abcI, n2, n3]
end
end VM

namespace VM
open PySem PySem.Spec PyProof.Rows L2 TL VL
open Classical
noncomputable section
/-! ## a tuple * 1 is the tuple itself -/
theorem tuple_mul1 (l : Addr) (items : Array Value) (n : Nat) (sl : Array (Option Value)) (dd : Option Addr) (u : Tok) :
    Meets (Builtin.«tuple.__mul__» ⟨[.ref l, .int 1 u], []⟩) (fun _ R s => s.heap.get? l = some { cls := .type "tuple", dict := dd, data := .seq items n, slots := sl } ∧ R (.ok (.ret (Value.ref l))) s) :=
  .of_wp fun prog w A R s h => by
    obtain ⟨hp, g, d, tk, os⟩ := s
    obtain ⟨hl, h⟩ := h
    have f1 := AutoSeq1.idx_int
    have c1 : (items.isEmpty || (1 : Int) == 1) = true := by simp
    wp_walk using wpAny_loadPart' hl
    repeat (first
      | (refine wpAny_ite_true (decide_eq_true (by rw [c1])) ?_; wp_walk using wpAny_loadPart' hl)
      | (refine wpAny_ite_false (by decide) ?_; wp_walk using wpAny_loadPart' hl))
    exact ⟨_, rfl, h⟩
def rRepT1 (K : PySem.W.Frag) : R2 := fun x y H Q => ∃ l xs, x = .ref l ∧ y = .int 1 ∧ SqT K H l xs ∧ Q (.ref l) H
section
variable {X : Cx}
theorem op_repT1 : OpR X (binaryOp .Mult) (rRepT1 X.K) := by
  intro pins s σ H x y v u Q I rx ry h
  obtain ⟨l, xs, rfl, rfl, hT, q⟩ := h
  cases rx
  obtain ⟨t, rfl⟩ := ry
  obtain ⟨its, r, ⟨⟨cls, dd, data, sl⟩, ho, hc, n, hd⟩, hs⟩ := I.tuple hT
  simp only at hc hd
  subst hc hd
  exact wpAny_binaryOp_repeat_ref (T := "tuple") (U := "int") (by decide) ⟨_, ho, rfl⟩ (fun s' => typeIs_int s' 1 t) noFill_tuple_mul F.fills_int_mul F.slot_int_rmul repeat_tuple F.slot_int_index.lookup
    (call_meets F.slot_int_rmul (typeIs_int s 1 t) F.entry_int_rmul (F.args_int_rmul_2 _ _) (int_rmul_tuple 1 t l its.toArray n dd sl)
      ⟨ho, rfl, ⟨_, ho, rfl⟩, call_meets F.slot_tuple_mul ⟨_, ho, rfl⟩ F.entry_tuple_mul (F.args_tuple_mul_2 _ _) (tuple_mul1 l its.toArray n sl dd t) ⟨ho, ⟨.ref l, H, I, rfl, q⟩⟩⟩)
theorem wo_repT1 {B : Bs} {ms : List Ob} {Q : D → List Ob → Prop} {xs : List D} (q : Q (.tup xs) ms) : WO X B ms (binaryOp .Mult) (.tup xs) (.int 1) Q :=
  WO.of op_repT1 fun H θ x y S r1 r2 => by
    have r0 := r1
    obtain ⟨p, vs, rfl, s, rs⟩ := rep_tup r1
    exact ⟨p, vs, rfl, rep_int r2, s, pv_same S r0 q⟩
end
@[simp] def opMulT : MO
  | .tup xs, .int k, ms => if xs ≠ [] ∧ 1 ≤ k ∧ k ≤ 1000 ∧ xs.length ≤ 1000 then some (.tup (List.replicate k.toNat xs).flatten, ms) else none
  | _, _, _ => none
theorem so_mulT {X : Cx} : SO X (binaryOp .Mult) opMulT := ⟨fun B ms d e Q h => by
  unfold opMulT at h
  split at h
  · rename_i xs k
    split at h
    · rename_i c
      by_cases h1 : k = 1
      · subst h1
        have e : (List.replicate (1 : Int).toNat xs).flatten = xs := by
          show (List.replicate 1 xs).flatten = xs
          simp
        rw [e] at h
        exact wo_repT1 h
      · exact wo_repT c.1 (by omega) c.2.2.1 c.2.2.2 h
    · exact h.elim
  · exact h.elim⟩
end
end VM

namespace VM
open PySem PySem.Spec PyProof.Rows L2 TL VL
open Classical
noncomputable section
/-! ## a token is given out: str.replace of written texts -/
/-- what begins with a fresh token -/
inductive Tok1 {α : Type} : Sem α → Prop where
  | fresh (k : Tok → Sem α) : Tok1 (.fresh k)
  | at_ (p : Pos) (k : Unit → Sem α) (h : Tok1 (k ())) : Tok1 (.at p k)
theorem Tok1.bind {α β : Type} {t : Sem α} (h : Tok1 t) (f : α → Sem β) : Tok1 (t.bind f) := by
  induction h with
  | fresh k => exact .fresh _
  | at_ p k _ ih => exact .at_ _ _ ih
theorem Tok1.wp {α : Type} {M : Model} {Γ : PySem.Ctx} {t : Sem α} (h : Tok1 t) : ∀ {Q : α → Pos → Shared → Prop} {E : Value → Pos → Shared → Prop} {p : Pos} {s : Shared}, Sem.wp M Γ t Q E p s → Sem.wp M Γ t (fun a p' s' => 1 ≤ s'.toks ∧ Q a p' s') (fun e p' s' => 1 ≤ s'.toks ∧ E e p' s') p s := by
  induction h with
  | fresh k => exact fun {Q E p s} h => Sem.wp_toks M Γ 1 _ Q E p { s with toks := s.toks + 1 } (Nat.le_add_left _ _) h
  | at_ p k _ ih => exact fun {Q E p s} h => ih h
section
variable {M : Model} {A : Around} {α : Type} {t : Sem α} {Q : α → Shared → Prop} {E : Value → Shared → Prop} {s : Shared}
theorem Tok1.any (h : Tok1 t) (q : wpAny M A t Q E s) : wpAny M A t (fun a s' => 1 ≤ s'.toks ∧ Q a s') E s := fun Γ p hΓ =>
  Sem.wp_mono M Γ _ (fun _ _ _ z => z) (fun _ _ _ z => z.2) _ _ (h.wp (q Γ p hΓ))
end
theorem tok_str {x : Str} {k : Nat} {pos : Pos} {env : Env} : Tok1 (eval (.Constant (.str x) k pos) env) := .fresh _
theorem tok_spl {t : Sem Value} {rest : List (Bool × Sem Value)} (h : Tok1 t) : Tok1 (spliced ((false, t) :: rest)) := by
  rw [spliced]; exact h.bind _
theorem tok_lst {x : Str} {k : Nat} {p pos : Pos} {es : List Expr} {env : Env} : Tok1 (eval (.List (.Constant (.str x) k p :: es) pos) env) := by
  rw [arm_eval_List]
  refine .at_ _ _ ?_
  exact (tok_spl (rest := backTo pos (starEach es env)) (tok_str (x := x) (k := k) (pos := p) (env := env))).bind _
theorem tok_asg {x : Str} {pos' pos : Pos} {e : Expr} {env : Env} (h : Tok1 (eval e env)) (hs : swapsWith e (some (.Name x pos')) pos.line env = pure false) : Tok1 (exec (.Assign [.Name x pos'] e pos) env) := by
  rw [exec_Assign_Name env x pos' e pos hs]
  exact .at_ _ _ (h.bind _)
/-! ### readings with a token out -/
section
variable {X : Cx} {B : Bs} {ds : List (Option D)} {ms : List Ob} {a b e : Expr} {pos : Pos}
def tCanT (X : Cx) (e : Expr) : TE := fun σ H Q => ∀ pins s, 1 ≤ s.toks → Inv X pins σ H s → wpAny (model X.prog X.w) X.A (eval e X.env) (EP X pins σ Q) X.xe s
theorem pet_can : PET X e (tCanT X e) := fun pins s _ _ _ h0 I h => h pins s h0 I
theorem can_pet {t : TE} (h : PET X e t) {σ : VL.St} {H : Hp} {Q : VK} (q : t σ H Q) : tCanT X e σ H Q := fun pins s h0 I => h pins s σ H Q h0 I q
theorem tCanT.mono {σ : VL.St} {H : Hp} {Q Q' : VK} (h : tCanT X e σ H Q) (q : ∀ v H', Q v H' → Q' v H') : tCanT X e σ H Q' := fun pins s h0 I =>
  thn (h pins s h0 I) fun _ _ ⟨v, H', I', r, z⟩ => ⟨v, H', I', r, q v H' z⟩
def taCanT (X : Cx) (es : List Expr) : TA := fun σ H Q => ∀ pos pins s, 1 ≤ s.toks → Inv X pins σ H s → wpAny (model X.prog X.w) X.A (spliced (backTo pos (starEach es X.env))) (AP X pins σ Q) X.xe s
theorem pat_can {es : List Expr} : PAT X es (taCanT X es) := fun pos pins s _ _ _ h0 I h => h pos pins s h0 I
theorem can_pat {es : List Expr} {t : TA} (h : PAT X es t) {σ : VL.St} {H : Hp} {Q : List V → Hp → Prop} (q : t σ H Q) : taCanT X es σ H Q := fun pos pins s h0 I => h pos pins s σ H Q h0 I q
theorem taCanT.mono {es : List Expr} {σ : VL.St} {H : Hp} {Q Q' : List V → Hp → Prop} (h : taCanT X es σ H Q) (q : ∀ v H', Q v H' → Q' v H') : taCanT X es σ H Q' := fun pos pins s h0 I =>
  thn (h pos pins s h0 I) fun _ _ ⟨v, H', I', r, z⟩ => ⟨v, H', I', r, q v H' z⟩
structure WET (X : Cx) (B : Bs) (ds : List (Option D)) (ms : List Ob) (e : Expr) (Q : D → List Ob → Prop) : Prop where
  run : ∀ σ H θ, Sat X.K B θ ms H → Slr X.K θ H ds σ → tCanT X e σ H (PV X.K B θ H Q)
structure WAT (X : Cx) (B : Bs) (ds : List (Option D)) (ms : List Ob) (es : List Expr) (Q : List D → List Ob → Prop) : Prop where
  run : ∀ σ H θ, Sat X.K B θ ms H → Slr X.K θ H ds σ → taCanT X es σ H (PVs X.K B θ H Q)
variable {Q : D → List Ob → Prop}
theorem WET.of (h : WE X B ds ms e Q) : WET X B ds ms e Q := ⟨fun σ H θ S L pins s _ I => h.run σ H θ S L pins s I⟩
theorem WAT.of {es : List Expr} {Q : List D → List Ob → Prop} (h : WA X B ds ms es Q) : WAT X B ds ms es Q := ⟨fun σ H θ S L pos pins s _ I => h.run σ H θ S L pos pins s I⟩
theorem WET.pe {t : TE} (h : PET X e t) (q : ∀ σ H θ, Sat X.K B θ ms H → Slr X.K θ H ds σ → t σ H (PV X.K B θ H Q)) : WET X B ds ms e Q := ⟨fun σ H θ S L => can_pet h (q σ H θ S L)⟩
theorem WET.bind {Q' : D → List Ob → Prop} (h : WET X B ds ms e Q') {σ : VL.St} {H : Hp} {θ : List Addr} (S : Sat X.K B θ ms H) (L : Slr X.K θ H ds σ) {R : VK}
    (q : ∀ d m v H1 more, Q' d m → Rep X.K (θ ++ more) H1 d v → ImmP H H1 → Sat X.K B (θ ++ more) m H1 → Slr X.K (θ ++ more) H1 ds σ → R v H1) : tCanT X e σ H R :=
  (h.run σ H θ S L).mono fun v H1 ⟨d, m, more, r, im, S1, z⟩ => q d m v H1 more z r im S1 (L.mono (Le.app _ _) im)
theorem WAT.bind {es : List Expr} {Q' : List D → List Ob → Prop} (h : WAT X B ds ms es Q') {σ : VL.St} {H : Hp} {θ : List Addr} (S : Sat X.K B θ ms H) (L : Slr X.K θ H ds σ) {R : List V → Hp → Prop}
    (q : ∀ d m v H1 more, Q' d m → Reps X.K (θ ++ more) H1 d v → ImmP H H1 → Sat X.K B (θ ++ more) m H1 → Slr X.K (θ ++ more) H1 ds σ → R v H1) : taCanT X es σ H R :=
  (h.run σ H θ S L).mono fun v H1 ⟨d, m, more, r, im, S1, z⟩ => q d m v H1 more z r im S1 (L.mono (Le.app _ _) im)
theorem wet_bin {op : Operator} (h : WET X B ds ms a fun d m => WET X B ds m b fun e m2 => WO X B m2 (binaryOp op) d e Q) : WET X B ds ms (.BinOp a op b pos) Q :=
  WET.pe (CwR.pet_op or_can pet_can pet_can) fun σ H θ S L => h.bind S L fun d m v H1 more q1 r1 im1 S1 L1 => q1.bind S1 L1 fun e m2 w H2 more2 q2 r2 im2 S2 L2 =>
    (q2 H2 _ v w S2 (Rep.mono (Le.app _ _) im2 _ _ r1) r2).mono fun z H3 hz => (hz.trans im2).trans im1
theorem wat_cons {es : List Expr} {Q : List D → List Ob → Prop} (h : WET X B ds ms e fun d m => WAT X B ds m es fun dl m2 => Q (d :: dl) m2)
    (hs : starEach (e :: es) X.env = (false, eval e X.env) :: starEach es X.env := by rfl) : WAT X B ds ms (e :: es) Q := .mk fun σ H θ S L =>
  can_pat (pat_cons pet_can pat_can hs) (h.bind S L fun d m v H1 more q1 r1 im1 S1 L1 => q1.bind S1 L1 fun dl m2 vs H2 more2 q2 r2 im2 S2 L2 =>
    ⟨d :: dl, m2, more ++ more2, by rw [← List.append_assoc]; exact mk_cons (Rep.mono (Le.app _ _) im2 _ _ r1) r2, im1.trans im2, by rw [← List.append_assoc]; exact S2, q2⟩)
theorem wet_list {es : List Expr} (h : WAT X B ds ms es fun dl m => dl.length ≤ sizeLine ∧ Q (.obj m.length) (m ++ [.lst dl])) : WET X B ds ms (.List es pos) Q :=
  WET.pe (pet_lst pat_can) fun σ H θ S L => h.bind S L fun dl m vs H1 more q1 r1 im1 S1 L1 => ⟨by rw [r1.length]; exact q1.1, fun p hp => (pv_lst S1 r1 hp q1.2).trans im1⟩
theorem wat_clos {es : List Expr} {Q : List D → List Ob → Prop} (h : WAT X B ds ms es fun dl m => m.all (Ob.cl m.length) = true → Q dl m) : WAT X B ds ms es Q := .mk fun σ H θ S L =>
  (h.run σ H θ S L).mono fun v H' ⟨dl, m, more, r, im, S', q⟩ => ⟨dl, m, more, r, im, S', q (sat_clos S')⟩
theorem wet_imp {Q' : D → List Ob → Prop} (h : WET X B ds ms e Q') (q : ∀ d m, Q' d m → Q d m) : WET X B ds ms e Q := .mk fun σ H θ S L =>
  (h.run σ H θ S L).mono fun v H' ⟨d, m, more, r, im, S', z⟩ => ⟨d, m, more, r, im, S', q d m z⟩
theorem wet_frz (F : Ob → D → Prop) (hF : ∀ ob d, F ob d → ∀ (K : PySem.W.Frag) (θ : List Addr) (H : Hp) (x : Addr), ObR K θ H x ob → ∃ u, H x = some u ∧ Mut (some u) ∧ imm u = false ∧ ∀ (n : Nat) (o : Obj), D.cl n d = true → Rep K (θ.take n) (upd H x (.frz o u)) d (.ref x))
    (h : WET X B ds ms e fun d m => ∃ m1 ob d', d = .obj m1.length ∧ m = m1 ++ [ob] ∧ ms.length ≤ m1.length ∧ m1.all (Ob.cl m1.length) = true ∧ D.cl m1.length d' = true ∧ F ob d' ∧ Q d' m1) : WET X B ds ms e Q := .mk fun σ H θ S L pins s h0 I =>
  thn (h.run σ H θ S L pins s h0 I) fun u s' ⟨v, H', I', rv, d, m, more, r, im, S', m1, ob, d', e1, e2, hle, c1, c2, hf, q⟩ => by
    subst e1; subst e2
    obtain ⟨x, ex, rfl⟩ := rep_obj r
    have hlen := S'.len
    rw [List.length_append, List.length_append] at hlen
    have hml : more.length = m1.length + 1 - θ.length := by
      have : [ob].length = 1 := rfl
      omega
    have hob := S'.obs m1.length ob x gL ex
    obtain ⟨w, hw, mu, hi, hr⟩ := hF ob d' hf _ _ _ _ hob
    obtain ⟨o, I2⟩ := inv_frz I' hw mu
    have ht : (θ ++ more).take m1.length = θ ++ more.take (m1.length - θ.length) := by
      rw [List.take_append, List.take_of_length_le (by rw [S.len]; exact hle)]
    have S2 := S'.cut (n := m1.length) (by simp) (by rw [List.take_left]; exact c1)
    rw [List.take_left] at S2
    have hx : x ∉ (θ ++ more).take m1.length := fun z => by
      obtain ⟨j, hj, e⟩ := List.getElem_of_mem z
      have hj' : j < m1.length := by rw [List.length_take] at hj; omega
      rw [List.getElem_take] at e
      obtain ⟨l2, e2⟩ := List.getElem?_eq_some_iff.mp ex
      have := (List.getElem_inj S'.nd).mp (e.trans e2.symm)
      omega
    obtain ⟨S3, im3⟩ := S2.other (o := .frz o w) hx (S'.new x (List.mem_of_getElem? ex)) hw hi
    refine ⟨.ref x, upd H' x (.frz o w), I2, rv, d', m1, more.take (m1.length - θ.length), ?_, im.trans im3, ?_, q⟩
    · rw [← ht]; exact hr _ _ c2
    · rw [← ht]; exact S3
theorem wet_frzL (h : WET X B ds ms e fun d m => ∃ m1 xs, d = .obj m1.length ∧ m = m1 ++ [.lst xs] ∧ ms.length ≤ m1.length ∧ m1.all (Ob.cl m1.length) = true ∧ imAll xs = true ∧ Q (.rol xs) m1) : WET X B ds ms e Q :=
  wet_frz FrzL frzL_ok (wet_imp h fun d m ⟨m1, xs, e1, e2, h1, h2, h3, q⟩ => ⟨m1, .lst xs, .rol xs, e1, e2, h1, h2, by unfold D.cl; exact im_clA h3, ⟨xs, rfl, rfl⟩, q⟩)
theorem wet_repl {y z : Str} {j k : Nat} {c0 c1 apos : Pos} (hyz : (y == z) = false) (h : WE X B ds ms e fun d m => ∃ x, d = .str x ∧ x.length + (x.length + 1) * z.length ≤ 16777216 ∧ Q (.str (Txt.replace x y z)) m)
    (hbase : attributeBase e "replace" X.env (eval e X.env) = eval e X.env := by rfl) (hline : (apos.endLine == pos.line) = true := by rfl) : WET X B ds ms (.Call (.Attribute e "replace" apos) [.Constant (.str y) j c0, .Constant (.str z) k c1] [] pos) Q :=
  WET.pe (CwR.pet_replC pe_can hyz rfl hbase hline) fun σ H θ S L => h.bind S L fun d m v H1 more q1 r1 im1 S1 L1 => by
    obtain ⟨x, rfl, hb, q⟩ := q1
    exact ⟨x, rep_str r1, hb, (pv_same S1 mk_str q).trans im1⟩
end
/-! ### the readings of the new layer -/
section
variable {X : Cx} {e a b : Expr} {pos : Pos}
structure SET (X : Cx) (e : Expr) (m : ME) : Prop where
  run : ∀ B ds ms Q, wp (m ds ms) Q (XW X B) → WET X B ds ms e Q
structure SAT (X : Cx) (es : List Expr) (m : MA) : Prop where
  run : ∀ B ds ms Q, wp (m ds ms) Q (XW X B) → WAT X B ds ms es Q
theorem set_of' {m : ME} (h : SE X e m) : SET X e m := ⟨fun B ds ms Q z => WET.of (h.run B ds ms Q z)⟩
theorem sat_of' {es : List Expr} {m : MA} (h : SA X es m) : SAT X es m := ⟨fun B ds ms Q z => WAT.of (h.run B ds ms Q z)⟩
theorem sat_cons {es : List Expr} {m : ME} {as : MA} (h1 : SET X e m) (h2 : SAT X es as) (hs : starEach (e :: es) X.env = (false, eval e X.env) :: starEach es X.env := by rfl) : SAT X (e :: es) (aCons m as) := ⟨fun B ds ms Q h =>
  wat_cons (h1.run B ds ms _ (wp_imp (wp_bind.mp h) fun d m1 h => h2.run B ds m1 _ (wp_imp (wp_bind.mp h) fun dl m2 h => h))) hs⟩
theorem set_rol {es : List Expr} {as : MA} (h1 : SAT X es as) : SET X (.List es pos) (rolE as) := ⟨fun B ds ms Q h =>
  wet_frzL (wet_list (wat_clos (h1.run B ds ms _ (wp_imp (wp_bind.mp h) fun dl m h => by
    unfold rolK at h
    split at h
    · rename_i c
      exact fun hc => ⟨c.1, m, dl, rfl, rfl, c.2.2, hc, c.2.1, h⟩
    · exact h.elim))))⟩
theorem set_catR {ma mb : ME} (ha : SET X a ma) (hb : SET X b mb) : SET X (.BinOp a .Add b pos) (catR ma mb) := ⟨fun B ds ms Q h =>
  wet_frzL (wet_bin (ha.run B ds ms _ (wp_imp (wp_bind.mp h) fun d m h => hb.run B ds m _ (wp_imp (wp_bind.mp h) fun e m2 h => by
    unfold catK2 at h
    split at h
    · split at h
      · rename_i xs ys h1 h2 c
        exact wo_addLL h1 h2 c.1 fun hc => ⟨m2, xs ++ ys, rfl, rfl, c.2.2, hc, c.2.1, h⟩
      · exact h.elim
    · exact h.elim))))⟩
@[simp] def replK (y z : Str) (d : D) (m : List Ob) : Res D := match d with
  | .str x => if x.length + (x.length + 1) * z.length ≤ 16777216 then .ok (.str (Txt.replace x y z)) m else .bad
  | _ => .bad
@[simp] def replE (y z : Str) (a : ME) (ds : Slots) (ms : List Ob) : Res D := (a ds ms).bind (replK y z)
theorem set_repl {y z : Str} {j k : Nat} {c0 c1 apos : Pos} {m : ME} (hyz : (y == z) = false) (h : SE X e m)
    (hbase : attributeBase e "replace" X.env (eval e X.env) = eval e X.env := by rfl) (hline : (apos.endLine == pos.line) = true := by rfl) : SET X (.Call (.Attribute e "replace" apos) [.Constant (.str y) j c0, .Constant (.str z) k c1] [] pos) (replE y z m) := ⟨fun B ds ms Q w =>
  wet_repl hyz (h.run B ds ms _ (wp_imp (wp_bind.mp w) fun d m w => by
    unfold replK at w
    split at w
    · split at w
      · exact ⟨_, rfl, by assumption, w⟩
      · exact w.elim
    · exact w.elim)) hbase hline⟩
end
/-! ### for -/
section
variable {X : Cx} {B : Bs} {ds : List (Option D)} {ms : List Ob} {tg e : Expr} {pos : Pos} {R : List D → (List Ob → Prop) → List Ob → Prop}
def tiCanT (X : Cx) (tg e : Expr) : TI := fun σ H R => ∀ pins s, 1 ≤ s.toks → Inv X pins σ H s → wpAny (model X.prog X.w) X.A (eval e X.env) (fun v s1 => wpAny (model X.prog X.w) X.A (pyIter v) (PIE X pins σ tg R) X.xe s1) X.xe s
theorem pit_can : PIT X tg e (tiCanT X tg e) := fun pins s _ _ _ h0 I h => h pins s h0 I
theorem can_pit {t : TI} (h : PIT X tg e t) {σ : VL.St} {H : Hp} {R : It → Hp → Prop} (q : t σ H R) : tiCanT X tg e σ H R := fun pins s h0 I => h pins s σ H R h0 I q
structure WIT (X : Cx) (B : Bs) (ds : List (Option D)) (ms : List Ob) (tg e : Expr) (R : List D → (List Ob → Prop) → List Ob → Prop) : Prop where
  run : ∀ σ H θ, Sat X.K B θ ms H → Slr X.K θ H ds σ → tiCanT X tg e σ H fun J H1 => ∃ items G m1 more, ImmP H H1 ∧ Sat X.K B (θ ++ more) m1 H1 ∧ R items G m1 ∧ WalkD X.K B (θ ++ more) H1 J items G
theorem wit_rol (h : WET X B ds ms e fun d m => ∃ xs, d = .rol xs ∧ R xs (fun _ => True) m) : WIT X B ds ms tg e R := .mk fun σ H θ S L => can_pit (pit_list pet_can) (h.bind S L fun d m v H1 more q r im S1 L1 => by
  obtain ⟨xs, rfl, q⟩ := q
  obtain ⟨a, vs, rfl, s, rs⟩ := rep_rol r
  exact ⟨a, rfl, ⟨vs, s.sq⟩, xs, _, m, more, im, S1, q, walkD_rol s rs⟩)
def tsCanT (X : Cx) (st : Stmt) : TS := fun D σ H => ∀ pins s, 1 ≤ s.toks → Inv X pins σ H s → wpAny (model X.prog X.w) X.A (exec st X.env) (L2.SP X pins D) X.xe s
theorem pst_can {st : Stmt} : PST X st (tsCanT X st) := fun pins s _ _ _ h0 I h => h pins s h0 I
theorem can_pst {st : Stmt} {t : TS} (h : PST X st t) {σ : VL.St} {H : Hp} {D : Ends} (q : t D σ H) : tsCanT X st D σ H := fun pins s h0 I => h pins s σ H D h0 I q
def tssCanT (X : Cx) (st : List Stmt) : TS := fun D σ H => ∀ pins s, 1 ≤ s.toks → Inv X pins σ H s → wpAny (model X.prog X.w) X.A (execs st X.env) (L2.SP X pins D) X.xe s
theorem psst_can {st : List Stmt} : PSsT X st (tssCanT X st) := fun pins s _ _ _ h0 I h => h pins s h0 I
theorem can_psst {st : List Stmt} {t : TS} (h : PSsT X st t) {σ : VL.St} {H : Hp} {D : Ends} (q : t D σ H) : tssCanT X st D σ H := fun pins s h0 I => h pins s σ H D h0 I q
theorem tssCanT.imp {st : List Stmt} {D D' : Ends} {σ : VL.St} {H : Hp} (h : tssCanT X st D σ H) (h1 : ∀ σ H, D.nx σ H → D'.nx σ H) (h2 : ∀ v H, D.rt v H → D'.rt v H) (h3 : ∀ σ H, D.bk σ H → D'.bk σ H) (h4 : ∀ σ H, D.ct σ H → D'.ct σ H) : tssCanT X st D' σ H :=
  fun pins s h0 I => thn (h pins s h0 I) fun _ _ z => SP.imp h1 h2 h3 h4 z
theorem tsCanT.imp {st : Stmt} {D D' : Ends} {σ : VL.St} {H : Hp} (h : tsCanT X st D σ H) (h1 : ∀ σ H, D.nx σ H → D'.nx σ H) (h2 : ∀ v H, D.rt v H → D'.rt v H) (h3 : ∀ σ H, D.bk σ H → D'.bk σ H) (h4 : ∀ σ H, D.ct σ H → D'.ct σ H) : tsCanT X st D' σ H :=
  fun pins s h0 I => thn (h pins s h0 I) fun _ _ z => SP.imp h1 h2 h3 h4 z
structure WST (X : Cx) (B : Bs) (fl : Nat) (ds : List (Option D)) (ms : List Ob) (st : Stmt) (E : En) : Prop where
  run : ∀ σ H θ, fl ≤ θ.length → Sat X.K B θ ms H → Slr X.K θ H ds σ → tsCanT X st (enOf X.K B fl θ H E) σ H
structure WSsT (X : Cx) (B : Bs) (fl : Nat) (ds : List (Option D)) (ms : List Ob) (st : List Stmt) (E : En) : Prop where
  run : ∀ σ H θ, fl ≤ θ.length → Sat X.K B θ ms H → Slr X.K θ H ds σ → tssCanT X st (enOf X.K B fl θ H E) σ H
variable {fl : Nat} {E : En}
theorem WSsT.of {st : List Stmt} (h : WSs X B fl ds ms st E) : WSsT X B fl ds ms st E := ⟨fun σ H θ hf S L pins s _ I => h.run σ H θ hf S L pins s I⟩
theorem WST.of {st : Stmt} (h : WS X B fl ds ms st E) : WST X B fl ds ms st E := ⟨fun σ H θ hf S L pins s _ I => h.run σ H θ hf S L pins s I⟩
theorem WSsT.moved {st : List Stmt} {θ θ' : List Addr} {H H' : Hp} {σ : VL.St} (h : WSsT X B fl ds ms st E) (hf : fl ≤ θ'.length) (S : Sat X.K B θ' ms H') (L : Slr X.K θ' H' ds σ) (im : ImmP H H') (t : θ'.take fl = θ.take fl) :
    tssCanT X st (enOf X.K B fl θ H E) σ H' :=
  (h.run σ H' θ' hf S L).imp (fun _ _ q => nxOf.trans im t q) (fun _ _ q => rtOf.trans im t q) (fun _ _ q => nxOf.trans im t q) (fun _ _ q => nxOf.trans im t q)
theorem wsst_cons {st : Stmt} {rest : List Stmt} (h : WST X B fl ds ms st { E with nx := fun ds' m' => WSsT X B fl ds' m' rest E }) : WSsT X B fl ds ms (st :: rest) E := .mk fun σ H θ hf S L =>
  can_psst (psst_cons pst_can psst_can) ((h.run σ H θ hf S L).imp (fun σ' H' ⟨ds', ms', θ', L', im, t, S', q⟩ => q.moved (len_of t hf) S' L' im t) (fun _ _ q => q) (fun _ _ q => q) (fun _ _ q => q))
theorem psst_tok {st : Stmt} {rest : List Stmt} {t u : TS} (h1 : PS X st t) (hk : Tok1 (exec st X.env)) (h2 : PSsT X rest u) : PSs X (st :: rest) (tSeq t u) := by
  refine ⟨fun pins s σ H D I h => ?_⟩
  refine wpAny_execs_cons (wpAny_mono (hk.any (h1.run pins s σ H { D with nx := u D } I h)) (fun f s1 q => ?_) fun _ _ x => x)
  obtain ⟨hk, q⟩ := q
  cases f with
  | next =>
    obtain ⟨σ', H', I', q⟩ := q
    exact h2 pins s1 σ' H' D hk I' q
  | ret v => exact q
  | brk => exact q
  | cont => exact q
theorem wss_tok {st : Stmt} {rest : List Stmt} (hk : Tok1 (exec st X.env)) (h : WS X B fl ds ms st { E with nx := fun ds' m' => WSsT X B fl ds' m' rest E }) : WSs X B fl ds ms (st :: rest) E := .mk fun σ H θ hf S L =>
  can_pss (psst_tok ps_can hk psst_can) ((h.run σ H θ hf S L).imp (fun σ' H' ⟨ds', ms', θ', L', im, t, S', q⟩ => q.moved (len_of t hf) S' L' im t) (fun _ _ q => q) (fun _ _ q => q) (fun _ _ q => q))
theorem wst_for {body : List Stmt} (hc : X.calm = true) (hp : PassesOwn (model X.prog X.w) X.A X.env X.xe)
    (h : WIT X B ds ms tg e fun items G m => ∃ Iv : Nat → List (Option D) → List Ob → Prop, Iv 0 ds m ∧ (∀ i ds' m', Iv i ds' m' → G m') ∧
      (∀ i d ds' m', items[i]? = some d → Iv i ds' m' → WG X B ds' m' tg d fun ds2 m2 => WSs X B m.length ds2 m2 body ⟨Iv (i + 1), E.rt, E.nx, Iv (i + 1)⟩) ∧ (∀ ds' m', Iv items.length ds' m' → E.nx ds' m'))
    (hs : ∀ x, foldedSetIterable e X.env x = pure x := by intro _; rfl) : WST X B fl ds ms (.For tg e body [] pos) E := .mk fun σ H θ hf S L => by
  refine can_pst (pst_for hp hc pit_can pg_can pss_can hs) ?_
  intro pins s h0 I
  refine thn (h.run σ H θ S L pins s h0 I) fun v s1 h1 => thn h1 fun itv s2 h2 => ?_
  obtain ⟨it, fp, tn, J, H1, e1, I1, T, t0, hfp, items, G, m, more, im, S1, ⟨Iv, i0, iG, step, done⟩, Gh, Y, W, wg, wy⟩ := h2
  refine ⟨it, fp, tn, J, H1, e1, I1, T, t0, hfp, ?_⟩
  have hlen : (θ ++ more).length = m.length := S1.len
  have L1 := L.mono (Le.app θ more) im
  have tk : ∀ {θ' : List Addr}, θ'.take (θ ++ more).length = θ ++ more → θ'.take fl = θ.take fl := fun {θ'} t => by
    have hfl : fl ≤ (θ ++ more).length := by rw [List.length_append]; omega
    rw [← take_app (more := more) hf, ← t, List.take_take]
    congr 1
    omega
  refine for_it W (fun i σ' H' => ∃ ds' ms' θ', Slr X.K θ' H' ds' σ' ∧ ImmP H1 H' ∧ θ'.take (θ ++ more).length = θ ++ more ∧ Sat X.K B θ' ms' H' ∧ Iv i ds' ms')
    ⟨ds, m, θ ++ more, L1, ImmP.refl _, List.take_length, S1, i0⟩ (fun i σ' H' _ ⟨ds', ms', θ', L', im', t', S', q⟩ => wg θ' ms' H' im' t' S' (iG i ds' ms' q)) (fun i x σ' H' H2 hi p y => ?_) (fun σ' H' p => ?_)
  · obtain ⟨ds', ms', θ', L', im', t', S', q⟩ := p
    obtain ⟨d, hd, sm2, S2, r2⟩ := wy i x H' H2 θ' ms' hi im' t' S' (iG i ds' ms' q) y
    have im2 : ImmP H' H2 := fun a o h _ => sm2 a o h
    refine WG.bind (step i d ds' ms' hd q) S2 (L'.mono (Le.refl _) im2) r2 fun ds3 ms3 more3 σ3 H3 n3 L3 im3 S3 => ?_
    have hl3 : m.length ≤ (θ' ++ more3).length := by
      have := le_len t'
      rw [List.length_append]; omega
    have t3 : (θ' ++ more3).take (θ ++ more).length = θ ++ more := by rw [take_app (le_len t')]; exact t'
    have imA : ImmP H1 H3 := (im'.trans im2).trans im3
    refine (n3 σ3 H3 _ hl3 S3 L3).imp (fun σ4 H4 z => ?_) (fun v4 H4 z => ?_) (fun σ4 H4 z => ?_) (fun σ4 H4 z => ?_)
    · obtain ⟨ds4, ms4, θ4, L4, im4, t4, S4, q4⟩ := z
      exact ⟨ds4, ms4, θ4, L4, imA.trans im4, by rw [hlen]; rw [t4, ← hlen]; exact t3, S4, q4⟩
    · obtain ⟨d4, ms4, θ4, r4, im4, t4, S4, q4⟩ := z
      exact ⟨d4, ms4, θ4, r4, im.trans (imA.trans im4), tk (by rw [hlen]; rw [t4, ← hlen]; exact t3), S4, q4⟩
    · obtain ⟨ds4, ms4, θ4, L4, im4, t4, S4, q4⟩ := z
      exact ⟨ds4, ms4, θ4, L4, im.trans (imA.trans im4), tk (by rw [hlen]; rw [t4, ← hlen]; exact t3), S4, q4⟩
    · obtain ⟨ds4, ms4, θ4, L4, im4, t4, S4, q4⟩ := z
      exact ⟨ds4, ms4, θ4, L4, imA.trans im4, by rw [hlen]; rw [t4, ← hlen]; exact t3, S4, q4⟩
  · obtain ⟨ds', ms', θ', L', im', t', S', q⟩ := p
    exact ⟨ds', ms', θ', L', im.trans im', tk t', S', done ds' ms' q⟩
end
section
variable {X : Cx} {tg e : Expr} {pos : Pos}
structure SIT (X : Cx) (tg e : Expr) (m : MI) : Prop where
  run : ∀ B ds ms R, wp (m ds ms) (fun p m' => R p.1 (gOk p.2) m') (XW X B) → WIT X B ds ms tg e R
  fs : ∀ x, foldedSetIterable e X.env x = pure x
@[simp] def srcF (d : D) (m : List Ob) : Res (List D × Gd) := match d with
  | .rol xs => .ok (xs, .tt) m
  | _ => .bad
@[simp] def iFrz (a : ME) (ds : Slots) (ms : List Ob) : Res (List D × Gd) := (a ds ms).bind srcF
theorem it_frz {m : ME} (h1 : SET X e m) (hs : ∀ x, foldedSetIterable e X.env x = pure x := by intro _; rfl) : SIT X tg e (iFrz m) := ⟨fun B ds ms R h =>
  wit_rol (h1.run B ds ms _ (wp_imp (wp_bind.mp h) fun d m h => by
    unfold srcF at h
    split at h
    · exact ⟨_, rfl, h⟩
    · exact h.elim)), hs⟩
structure SST (X : Cx) (st : Stmt) (m : MS) : Prop where
  run : ∀ B fl ds ms E, wpS (m ds ms) E (XW X B) → WST X B fl ds ms st E
structure SSsT (X : Cx) (st : List Stmt) (m : MS) : Prop where
  run : ∀ B fl ds ms E, wpS (m ds ms) E (XW X B) → WSsT X B fl ds ms st E
theorem sst_of {st : List Stmt} {m : MS} (h : SSs X st m) : SSsT X st m := ⟨fun B fl ds ms E z => WSsT.of (h.run B fl ds ms E z)⟩
theorem sst_cons {st : Stmt} {rest : List Stmt} {s t : MS} (h1 : SST X st s) (h2 : SSsT X rest t) : SSsT X (st :: rest) (sqS s t) := ⟨fun B fl ds ms E h =>
  wsst_cons (h1.run B fl ds ms _ (by
    have h := wpS_sq h
    unfold wpS at h ⊢
    refine wp_imp h fun f m h => ?_
    cases f with
    | nx ds' => exact h2.run B fl ds' m E h
    | _ => exact h))⟩
/-- behind a statement that gives out a token -/
theorem ss_tok {st : Stmt} {rest : List Stmt} {s t : MS} (h1 : SS X st s) (hk : Tok1 (exec st X.env)) (h2 : SSsT X rest t) : SSs X (st :: rest) (sqS s t) := ⟨fun B fl ds ms E h =>
  wss_tok hk (h1.run B fl ds ms _ (by
    have h := wpS_sq h
    unfold wpS at h ⊢
    refine wp_imp h fun f m h => ?_
    cases f with
    | nx ds' => exact h2.run B fl ds' m E h
    | _ => exact h))⟩
theorem stt_for (k : List Nat) (gc : Bool) {body : List Stmt} {it : MI} {g : MG} {s : MS} (hc : X.calm = true) (hp : PassesOwn (model X.prog X.w) X.A X.env X.xe) (h1 : SIT X tg e it) (h2 : SG X tg g) (h3 : SSs X body s) : SST X (.For tg e body [] pos) (forS k gc it g s) := ⟨fun B fl ds ms E h =>
  wst_for hc hp (h1.run B ds ms _ (wp_imp (wp_bind.mp h) fun p m h => by
    refine ⟨fun i ds' m' => wpS (forL p.2 g s k gc m.length (p.1.drop i) ds' m') E (XW X B), h, fun i ds' m' hi => ?_, fun i d ds' m' hd hi => ?_, fun ds' m' hi => ?_⟩
    · dsimp only at hi
      cases hl : p.1.drop i with
      | nil =>
        rw [hl] at hi; unfold forL at hi
        split at hi
        · assumption
        · exact hi.elim
      | cons d r =>
        rw [hl] at hi; unfold forL at hi
        split at hi
        · assumption
        · exact hi.elim
    · dsimp only at hi ⊢
      have hlt := (List.getElem?_eq_some_iff.mp hd).1
      have e1 : p.1.drop i = d :: p.1.drop (i + 1) := by
        rw [List.drop_eq_getElem_cons hlt]
        rw [(List.getElem?_eq_some_iff.mp hd).2]
      rw [e1] at hi
      unfold forL at hi
      split at hi
      · unfold wpS at hi
        refine h2.run B d ds' m' _ (wp_imp (wp_bind.mp hi) fun ds1 m1 hi => ?_)
        refine wss_weak (E := ⟨fun _ _ => True, E.rt, E.nx, fun _ _ => True⟩) k gc m.length (Nat.le_refl _) (h3.run B m.length ds1 m1 _ ?_)
        unfold wpS
        refine wp_imp (wp_bind.mp hi) fun f m2 hi => ?_
        cases f <;> exact hi
      · exact hi.elim
    · dsimp only at hi
      rw [List.drop_length] at hi
      unfold forL at hi
      split at hi
      · exact hi
      · exact hi.elim)) h1.fs⟩
end
/-! ## a list times an int, held fast -/
def rRepS (K : PySem.W.Frag) : R2 := fun x y H Q => ∃ l k xs, x = .ref l ∧ y = .int k ∧ SqS K H l xs ∧ -(2 ^ 63) ≤ k ∧ k < 2 ^ 63 ∧ xs.length * k.toNat ≤ sizeLine ∧
  ∀ p, H p = none → Q (.ref p) (upd H p (.lst (List.replicate k.toNat xs).flatten))
theorem op_repS {X : Cx} : OpR X (binaryOp .Mult) (rRepS X.K) := by
  intro pins s σ H x y v u Q I rx ry h
  obtain ⟨l, k, xs, rfl, rfl, hH, h1, h2, hz, q⟩ := h
  cases rx
  obtain ⟨t, rfl⟩ := ry
  obtain ⟨z, its, n, r, hl, e⟩ := inv_sqs I hH
  have hlen : its.toArray.size * k.toNat ≤ sizeLine := by rw [List.size_toArray, ← hl]; exact hz
  have hcap : ¬ its.toArray.size * k.toNat > (2 ^ 63 - 1) / 8 := by
    have : (sizeLine : Nat) ≤ (2 ^ 63 - 1) / 8 := by decide
    omega
  have hfit : ¬ (!Builtin.List.listFitsIndex k) = true := by
    rw [fitsIndex_both h1 h2]
    exact Bool.false_ne_true
  have hlong : ¬ Builtin.List.listTooLong (its.toArray.size * k.toNat) = true := by
    rw [notLongL hlen]
    exact Bool.false_ne_true
  have hnew : List.foldl (fun x1 x2 => x1 ++ x2) #[] (List.replicate (if its.toArray.isEmpty = true then 0 else k.toNat) its.toArray) = (List.replicate k.toNat its).flatten.toArray := by
    have f0 : ∀ m : Nat, List.foldl (fun x1 x2 => x1 ++ x2) #[] (List.replicate m its.toArray) = (List.replicate m its).flatten.toArray := fun m => by
      have := foldl_rep its m []
      rw [List.nil_append] at this
      exact this
    rw [f0]
    cases its with
    | nil => simp
    | cons a r' => rw [if_neg (by simp)]
  refine wpAny_binaryOp_repeat_ref (T := "list") (U := "int") (by decide) ⟨_, e, rfl⟩ (fun s' => typeIs_int s' k t) noFill_list_mul F.fills_int_mul F.slot_int_rmul repeat_list F.slot_int_index.lookup
    (call_meets F.slot_int_rmul (typeIs_int s k t) F.entry_int_rmul (F.args_int_rmul_2 _ _) (int___rmul___int_list k t l its.toArray n)
      ⟨e, rfl, ⟨_, e, rfl⟩, call_meets F.slot_list_mul ⟨_, e, rfl⟩ F.entry_list_mul (F.args_list_mul_2 _ _) (AutoListH.list___mul___list_int_3 l its.toArray n k t hfit hcap hlong) ⟨e, ?_⟩⟩)
  rw [hnew]
  exact ⟨.ref _, _, I.lnew (t' := s.toks) (r.rep k.toNat) (by rw [PyProof.Rows.lm_len_rep_flat, Nat.mul_comm]; exact hz), rfl, q _ I.fresh⟩
section
variable {X : Cx} {a b : Expr} {pos : Pos}
theorem wo_repL {B : Bs} {ms : List Ob} {d : D} {xs : List D} {k : Int} {Q : D → List Ob → Prop} (h1 : lstOf ms d = some xs) (h2 : 0 ≤ k) (h3 : k ≤ 1000000) (hc : xs.length * k.toNat ≤ sizeLine) (q : ms.all (Ob.cl ms.length) = true → Q (.obj ms.length) (ms ++ [.lst (List.replicate k.toNat xs).flatten])) : WO X B ms (binaryOp .Mult) d (.int k) Q :=
  WO.of op_repS fun H θ x y S r1 r2 => by
    obtain ⟨a, vs, rfl, s1, q1⟩ := lst_repS h1 S r1
    rw [rep_int r2]
    have rr : ∀ n : Nat, Reps X.K θ H (List.replicate n xs).flatten (List.replicate n vs).flatten := by
      intro n
      induction n with
      | zero => exact mk_nil
      | succ n ih => rw [List.replicate_succ, List.replicate_succ, List.flatten_cons, List.flatten_cons]; exact q1.append ih
    exact ⟨a, k, vs, rfl, rfl, s1, by omega, by omega, by rw [q1.length]; exact hc, fun p hp => pv_lst S (rr _) hp (q (sat_clos S))⟩
@[simp] def mulK2 (n : Nat) (d e : D) (m2 : List Ob) : Res D := match lstOf m2 d, e with
  | some xs, .int k => if 0 ≤ k ∧ k ≤ 1000000 ∧ xs.length * k.toNat ≤ sizeLine ∧ imAll (List.replicate k.toNat xs).flatten = true ∧ n ≤ m2.length then .ok (.rol (List.replicate k.toNat xs).flatten) m2 else .bad
  | _, _ => .bad
@[simp] def mulK (n : Nat) (b : ME) (ds : Slots) (d : D) (m : List Ob) : Res D := (b ds m).bind (mulK2 n d)
@[simp] def mulR (a b : ME) (ds : Slots) (ms : List Ob) : Res D := (a ds ms).bind (mulK ms.length b ds)
theorem s_mulR {ma mb : ME} (ha : SE X a ma) (hb : SE X b mb) : SE X (.BinOp a .Mult b pos) (mulR ma mb) := ⟨fun B ds ms Q h =>
  we_frzL (we_bin (ha.run B ds ms _ (wp_imp (wp_bind.mp h) fun d m h => hb.run B ds m _ (wp_imp (wp_bind.mp h) fun e m2 h => by
    unfold mulK2 at h
    split at h
    · split at h
      · rename_i xs k h1 c
        exact wo_repL h1 c.1 c.2.1 c.2.2.1 fun hc => ⟨m2, (List.replicate k.toNat xs).flatten, rfl, rfl, c.2.2.2.2, hc, c.2.2.2.1, h⟩
      · exact h.elim
    · exact h.elim))))⟩
end
end
end VM

namespace My
open PySem PySem.Spec PyProof.Rows L2 TL VL VM
def topS (i : Nat) : Stmt := PySem.Challenge.pw_surelyorders_k17_long_texts.main.body.getD i (.Pass ⟨0, 0, 0, 0⟩)
structure Txt (K : PySem.W.Frag) (mg : Str → Option Value) (t_END t_FIGURES t_LETTERS t_MAX_LETTERS t_MOST_FIGURES t_STATE : Tok) (A_HEADS A_WORDS : Addr) : Prop where
  g_END : mg "END" = some (.str "." t_END)
  g_FIGURES : mg "FIGURES" = some (.str "0123456789" t_FIGURES)
  g_LETTERS : mg "LETTERS" = some (.str "abc" t_LETTERS)
  g_MAX_LETTERS : mg "MAX_LETTERS" = some (.int 3 t_MAX_LETTERS)
  g_MOST_FIGURES : mg "MOST_FIGURES" = some (.int 9 t_MOST_FIGURES)
  g_STATE : mg "STATE" = some (.str "state" t_STATE)
  g_abs : mg "abs" = none
  g_bool : mg "bool" = none
  g_enumerate : mg "enumerate" = none
  g_int : mg "int" = none
  g_isinstance : mg "isinstance" = none
  g_len : mg "len" = none
  g_range : mg "range" = none
  g_repr : mg "repr" = none
  g_str : mg "str" = none
  g_tuple : mg "tuple" = none
  g_HEADS : mg "HEADS" = some (.ref A_HEADS)
  kt_HEADS : KTup K A_HEADS ["letters a", "letters ab", "letters abc"]
  g_WORDS : mg "WORDS" = some (.ref A_WORDS)
  kt_WORDS : KTup K A_WORDS ["less", "same", "more"]
section
variable {P : Program} {w : World} {K : PySem.W.Frag} {mg : Str → Option Value} {base : Heap} {t_END t_FIGURES t_LETTERS t_MAX_LETTERS t_MOST_FIGURES t_STATE : Tok} {A_HEADS A_WORDS : Addr}
abbrev s_BadText_init : Stmt := inClass (topS 12) 0
theorem sc_BadText_init : FnScope ["self", "line"] ["self", "line"] (defScope s_BadText_init) := ⟨rfl, rfl, rfl, by decide +kernel, rfl, by decide +kernel, by decide +kernel⟩
theorem ok_BadText_init {f C0 : Addr} {fd : FuncData} (F : Fun K "__init__" "BadText.__init__" s_BadText_init f fd) (g0 : mg "OrderError" = some (.ref C0)) (T0 : BaseC K C0) : FnOk P w K mg base CX0 1 f fd ["self", "line"] (spInit K "line") := by
  refine fn_init (m := "BadText") F sc_BadText_init fun cdv A outer s H E => ?_
  exact pss_cons (ps_expr (pe_cinit rfl g0 T0 (pa_cons (pe_var rfl (.inl rfl)) (pa_cons pe_str pa_nil)))) (pss_one (ps_ost (pe_var rfl (.inl rfl)) (pe_var rfl (.inl rfl))))
abbrev s_BadComp_init : Stmt := inClass (topS 13) 0
theorem sc_BadComp_init : FnScope ["self", "error"] ["self", "error"] (defScope s_BadComp_init) := ⟨rfl, rfl, rfl, by decide +kernel, rfl, by decide +kernel, by decide +kernel⟩
theorem ok_BadComp_init {f C0 : Addr} {fd : FuncData} (F : Fun K "__init__" "BadComp.__init__" s_BadComp_init f fd) (g0 : mg "OrderError" = some (.ref C0)) (T0 : BaseC K C0) : FnOk P w K mg base CX0 1 f fd ["self", "error"] (spInit K "error") := by
  refine fn_init (m := "BadComp") F sc_BadComp_init fun cdv A outer s H E => ?_
  exact pss_cons (ps_expr (pe_cinit rfl g0 T0 (pa_cons (pe_var rfl (.inl rfl)) (pa_cons pe_str pa_nil)))) (pss_one (ps_ost (pe_var rfl (.inl rfl)) (pe_var rfl (.inl rfl))))
noncomputable def m_is_integer : MS := retS (andE (bltE bIsi (aCons (nm 0) (aCons (cst (.ty "int")) (aNil)))) (andE (notE (bltE bIsi (aCons (nm 0) (aCons (cst (.ty "bool")) (aNil))))) (chE opLe opLe (nm 1) (nm 0) (nm 2))))
noncomputable def F_is_integer := runP 3 3 m_is_integer
abbrev v_is_integer : VSp := pV F_is_integer
abbrev s_is_integer : Stmt := topS 4
theorem sc_is_integer : FnScope ["value", "least", "most"] ["value", "least", "most"] (defScope s_is_integer) := ⟨rfl, rfl, rfl, by decide +kernel, rfl, by decide +kernel, by decide +kernel⟩
theorem ok_is_integer {f : Addr} {fd : FuncData} (F : Fun K "is_integer" "is_integer" s_is_integer f fd) (T : Txt K mg t_END t_FIGURES t_LETTERS t_MAX_LETTERS t_MOST_FIGURES t_STATE A_HEADS A_WORDS) : FnG P w K mg base 1 f fd ["value", "least", "most"] (spOf K v_is_integer) := by
  obtain ⟨g_END, g_FIGURES, g_LETTERS, g_MAX_LETTERS, g_MOST_FIGURES, g_STATE, g_abs, g_bool, g_enumerate, g_int, g_isinstance, g_len, g_range, g_repr, g_str, g_tuple, g_HEADS, kt_HEADS, g_WORDS, kt_WORDS⟩ := T
  have sc := sc_is_integer
  refine fnP F sc_is_integer fun cdv A outer s H hr hgd => ?_
  have hu := hu64 hr
  have hu7 := hu70 hr
  exact ss_one (st_ret (s_and (s_callB g_isinstance (by decide +kernel) rfl b_isi (sa_cons (s_nm 0 rfl (.inl rfl)) (sa_cons (s_ty g_int rfl (by decide +kernel)) (sa_nil)))) (s_and (s_not (s_callB g_isinstance (by decide +kernel) rfl b_isi (sa_cons (s_nm 0 rfl (.inl rfl)) (sa_cons (s_ty g_bool rfl (by decide +kernel)) (sa_nil))))) (s_and1 (s_ch so_le so_le (s_nm 1 rfl (.inl rfl)) (s_nm 0 rfl (.inl rfl)) (s_nm 2 rfl (.inl rfl)) (fun _ _ _ _ h => we_chain h))))))
noncomputable def m_signs_of : MS := retS (binE opAdd (slR (cst (.str "abc")) (noP) (aP (nm 0))) (cst (.str ".")))
noncomputable def F_signs_of := runP 1 1 m_signs_of
abbrev v_signs_of : VSp := pV F_signs_of
abbrev s_signs_of : Stmt := topS 5
theorem sc_signs_of : FnScope ["letters"] ["letters"] (defScope s_signs_of) := ⟨rfl, rfl, rfl, by decide +kernel, rfl, by decide +kernel, by decide +kernel⟩
theorem ok_signs_of {f : Addr} {fd : FuncData} (F : Fun K "signs_of" "signs_of" s_signs_of f fd) (T : Txt K mg t_END t_FIGURES t_LETTERS t_MAX_LETTERS t_MOST_FIGURES t_STATE A_HEADS A_WORDS) : FnG P w K mg base 1 f fd ["letters"] (spOf K v_signs_of) := by
  obtain ⟨g_END, g_FIGURES, g_LETTERS, g_MAX_LETTERS, g_MOST_FIGURES, g_STATE, g_abs, g_bool, g_enumerate, g_int, g_isinstance, g_len, g_range, g_repr, g_str, g_tuple, g_HEADS, kt_HEADS, g_WORDS, kt_WORDS⟩ := T
  have sc := sc_signs_of
  refine fnP F sc_signs_of fun cdv A outer s H hr hgd => ?_
  have hu := hu64 hr
  have hu7 := hu70 hr
  exact ss_one (st_ret (s_bin so_add (s_slR (s_gS g_LETTERS rfl) (sp_no) (sp_a (s_nm 0 rfl (.inl rfl)))) (s_gS g_END rfl)))
noncomputable def m_columns_L1 : MS := exprS (mthE "list" mExtend (nm 1) (aCons (lcR [3] (app1 3) (iVal (callP F_signs_of (aCons (nm 0) (aNil)))) (yesT) (binE opAdd (nm 2) (nm 3))) (aNil)))
noncomputable def m_columns : MS := sqS (setS 1 (lstE (aNil))) <|
    sqS (forS [2] true (iVal (callP F_signs_of (aCons (nm 0) (aNil)))) (gNm 2) (m_columns_L1)) <|
    retS (bltE bTup (aCons (slR (nm 1) (noP) (aP (cst (.int (-1))))) (aNil)))
noncomputable def F_columns := runP 1 4 m_columns
abbrev v_columns : VSp := pV F_columns
abbrev s_columns : Stmt := topS 6
theorem sc_columns : FnScope ["letters", "found", "one", "other"] ["letters"] (defScope s_columns) := ⟨rfl, rfl, rfl, by decide +kernel, rfl, by decide +kernel, by decide +kernel⟩
theorem ok_columns {f : Addr} {fd : FuncData} (F : Fun K "columns" "columns" s_columns f fd) (T : Txt K mg t_END t_FIGURES t_LETTERS t_MAX_LETTERS t_MOST_FIGURES t_STATE A_HEADS A_WORDS) (D_signs_of : Dc P w K mg base 1 "signs_of" ["letters"] v_signs_of) : FnG P w K mg base 2 f fd ["letters"] (spOf K v_columns) := by
  obtain ⟨g_END, g_FIGURES, g_LETTERS, g_MAX_LETTERS, g_MOST_FIGURES, g_STATE, g_abs, g_bool, g_enumerate, g_int, g_isinstance, g_len, g_range, g_repr, g_str, g_tuple, g_HEADS, kt_HEADS, g_WORDS, kt_WORDS⟩ := T
  have sc := sc_columns
  refine fnP F sc_columns fun cdv A outer s H hr hgd => ?_
  have hu := hu64 hr
  have hu7 := hu70 hr
  exact ss_cons (st_set 1 sc.nd rfl (.inl rfl) (.inl rfl) (s_lst (sa_nil))) (ss_cons (st_for [2] true rfl PassesOwn.never (i_val (s_callP (fun _ _ h => runP_im h) D_signs_of (hr.mono (by omega)) hgd rfl (sa_cons (s_nm 0 rfl (.inl rfl)) (sa_nil)))) (g_nm 2 sc.nd rfl (.inr rfl) (.inl rfl)) (ss_one (st_expr (s_mth PySem.F.plainAttrs_list PySem.F.slot_list_extend PySem.F.type_list_extend m_extend (s_nm 1 rfl (.inl rfl)) (sa_cons (s_lcR rfl sc.nd (own := [("other", 3)]) (blkOk_by rfl) (tg_name 3 sc.nd rfl rfl (by decide)) (i_val (s_callP (fun _ _ h => runP_im h) D_signs_of (hr.mono (by omega)) hgd rfl (sa_cons (s_nm 0 rfl (.inl rfl)) (sa_nil)))) (fun _ _ _ _ _ => sts_nil) (fun _ _ _ _ _ => s_bin so_add (s_nm 2 rfl (.inr (.inl rfl))) (s_nm 3 rfl (by first | exact .inl rfl | exact .inr (.inl rfl) | exact .inr (.inr rfl))))) (sa_nil)))))) (ss_one (st_ret (s_callTy g_tuple (by decide +kernel) rfl b_tup (sa_cons (s_slR (s_nm 1 rfl (.inl rfl)) (sp_no) (sp_a (s_negC))) (sa_nil))))))
noncomputable def m_is_row : MS := sqS (ifS (tor (tnot (tval (bltE bIsi (aCons (nm 0) (aCons (cst (.ty "tuple")) (aNil)))))) (tcmp opNe (bltE bLen (aCons (nm 0) (aNil))) (bltE bLen (aCons (callP F_columns (aCons (nm 1) (aNil))) (aNil))))) (retS (cst (.bl false))) (skipS)) <|
    retS (binE opEq (lcR [3] (app1 3) (iVal (nm 0)) (tnot (tval (callP F_is_integer (aCons (nm 3) (aCons (cst (.int 0)) (aCons (binE opSub (nm 2) (cst (.int 1))) (aNil))))))) (nm 3)) (rolE (aNil)))
noncomputable def F_is_row := runP 3 4 m_is_row
abbrev v_is_row : VSp := pV F_is_row
abbrev s_is_row : Stmt := topS 7
theorem sc_is_row : FnScope ["value", "letters", "states", "item"] ["value", "letters", "states"] (defScope s_is_row) := ⟨rfl, rfl, rfl, by decide +kernel, rfl, by decide +kernel, by decide +kernel⟩
theorem ok_is_row {f : Addr} {fd : FuncData} (F : Fun K "is_row" "is_row" s_is_row f fd) (T : Txt K mg t_END t_FIGURES t_LETTERS t_MAX_LETTERS t_MOST_FIGURES t_STATE A_HEADS A_WORDS) (D_columns : Dc P w K mg base 2 "columns" ["letters"] v_columns) (D_is_integer : Dc P w K mg base 1 "is_integer" ["value", "least", "most"] v_is_integer) : FnG P w K mg base 3 f fd ["value", "letters", "states"] (spOf K v_is_row) := by
  obtain ⟨g_END, g_FIGURES, g_LETTERS, g_MAX_LETTERS, g_MOST_FIGURES, g_STATE, g_abs, g_bool, g_enumerate, g_int, g_isinstance, g_len, g_range, g_repr, g_str, g_tuple, g_HEADS, kt_HEADS, g_WORDS, kt_WORDS⟩ := T
  have sc := sc_is_row
  refine fnP F sc_is_row fun cdv A outer s H hr hgd => ?_
  have hu := hu64 hr
  have hu7 := hu70 hr
  exact ss_cons (st_if (t_w (w_or (t_not (t_val (s_callB g_isinstance (by decide +kernel) rfl b_isi (sa_cons (s_nm 0 rfl (.inl rfl)) (sa_cons (s_ty g_tuple rfl (by decide +kernel)) (sa_nil)))))) (w_or1 (t_cmp (so_ne hu) (s_callB g_len (by decide +kernel) rfl b_len (sa_cons (s_nm 0 rfl (.inl rfl)) (sa_nil))) (s_callB g_len (by decide +kernel) rfl b_len (sa_cons (s_callP (fun _ _ h => runP_im h) D_columns (hr.mono (by omega)) hgd rfl (sa_cons (s_nm 1 rfl (.inl rfl)) (sa_nil))) (sa_nil))))))) (ss_one (st_ret (s_bl))) (ss_nil)) (ss_one (st_ret (s_cmp (so_eq hu) (s_lcR rfl sc.nd (own := [("item", 3)]) (blkOk_by rfl) (tg_name 3 sc.nd rfl rfl (by decide)) (i_val (s_nm 0 rfl (.inl rfl))) (fun _ _ _ _ _ => sts_one (t_not (t_val (s_callP (fun _ _ h => runP_im h) D_is_integer (hr.mono (by omega)) hgd rfl (sa_cons (s_nm 3 rfl (by first | exact .inl rfl | exact .inr (.inl rfl) | exact .inr (.inr rfl))) (sa_cons (s_int) (sa_cons (s_bin so_sub (s_nm 2 rfl (.inr (.inl rfl))) (s_int)) (sa_nil)))))))) (fun _ _ _ _ _ => s_nm 3 rfl (by first | exact .inl rfl | exact .inr (.inl rfl) | exact .inr (.inr rfl)))) (s_rol (sa_nil)))))
noncomputable def m_are_verdicts : MS := sqS (ifS (tor (tnot (tval (bltE bIsi (aCons (nm 0) (aCons (cst (.ty "tuple")) (aNil)))))) (tcmp opNe (bltE bLen (aCons (nm 0) (aNil))) (nm 1))) (retS (cst (.bl false))) (skipS)) <|
    retS (binE opEq (lcR [2] (app1 2) (iVal (nm 0)) (tnot (tval (callP F_is_integer (aCons (nm 2) (aCons (cst (.int (-1))) (aCons (cst (.int 1)) (aNil))))))) (nm 2)) (rolE (aNil)))
noncomputable def F_are_verdicts := runP 2 3 m_are_verdicts
abbrev v_are_verdicts : VSp := pV F_are_verdicts
abbrev s_are_verdicts : Stmt := topS 8
theorem sc_are_verdicts : FnScope ["value", "states", "item"] ["value", "states"] (defScope s_are_verdicts) := ⟨rfl, rfl, rfl, by decide +kernel, rfl, by decide +kernel, by decide +kernel⟩
theorem ok_are_verdicts {f : Addr} {fd : FuncData} (F : Fun K "are_verdicts" "are_verdicts" s_are_verdicts f fd) (T : Txt K mg t_END t_FIGURES t_LETTERS t_MAX_LETTERS t_MOST_FIGURES t_STATE A_HEADS A_WORDS) (D_is_integer : Dc P w K mg base 1 "is_integer" ["value", "least", "most"] v_is_integer) : FnG P w K mg base 2 f fd ["value", "states"] (spOf K v_are_verdicts) := by
  obtain ⟨g_END, g_FIGURES, g_LETTERS, g_MAX_LETTERS, g_MOST_FIGURES, g_STATE, g_abs, g_bool, g_enumerate, g_int, g_isinstance, g_len, g_range, g_repr, g_str, g_tuple, g_HEADS, kt_HEADS, g_WORDS, kt_WORDS⟩ := T
  have sc := sc_are_verdicts
  refine fnP F sc_are_verdicts fun cdv A outer s H hr hgd => ?_
  have hu := hu64 hr
  have hu7 := hu70 hr
  exact ss_cons (st_if (t_w (w_or (t_not (t_val (s_callB g_isinstance (by decide +kernel) rfl b_isi (sa_cons (s_nm 0 rfl (.inl rfl)) (sa_cons (s_ty g_tuple rfl (by decide +kernel)) (sa_nil)))))) (w_or1 (t_cmp (so_ne hu) (s_callB g_len (by decide +kernel) rfl b_len (sa_cons (s_nm 0 rfl (.inl rfl)) (sa_nil))) (s_nm 1 rfl (.inl rfl)))))) (ss_one (st_ret (s_bl))) (ss_nil)) (ss_one (st_ret (s_cmp (so_eq hu) (s_lcR rfl sc.nd (own := [("item", 2)]) (blkOk_by rfl) (tg_name 2 sc.nd rfl rfl (by decide)) (i_val (s_nm 0 rfl (.inl rfl))) (fun _ _ _ _ _ => sts_one (t_not (t_val (s_callP (fun _ _ h => runP_im h) D_is_integer (hr.mono (by omega)) hgd rfl (sa_cons (s_nm 2 rfl (by first | exact .inl rfl | exact .inr (.inl rfl) | exact .inr (.inr rfl))) (sa_cons (s_negC) (sa_cons (s_int) (sa_nil)))))))) (fun _ _ _ _ _ => s_nm 2 rfl (by first | exact .inl rfl | exact .inr (.inl rfl) | exact .inr (.inr rfl)))) (s_rol (sa_nil)))))
noncomputable def m_comp_error_L1 : MS := ifS (tnot (tval (callP F_is_row (aCons (nm 5) (aCons (nm 1) (aCons (bltE bLen (aCons (nm 2) (aNil))) (aNil))))))) (retS (tupE (aCons (nm 4) (aCons (cst (.str "row")) (aNil))))) (skipS)
noncomputable def m_comp_error : MS := sqS (ifS (tor (tnot (tval (bltE bIsi (aCons (nm 0) (aCons (cst (.ty "tuple")) (aNil)))))) (tcmp opNe (bltE bLen (aCons (nm 0) (aNil))) (cst (.int 3)))) (retS (tupE (aCons (cst .non) (aCons (cst (.str "comp")) (aNil))))) (skipS)) <|
    sqS (asgS (gTup 3 (gCons (gNm 1) (gCons (gNm 2) (gCons (gNm 3) (gNil))))) (nm 0)) <|
    sqS (ifS (tnot (tval (callP F_is_integer (aCons (nm 1) (aCons (cst (.int 1)) (aCons (cst (.int 3)) (aNil))))))) (retS (tupE (aCons (cst .non) (aCons (cst (.str "letters")) (aNil))))) (skipS)) <|
    sqS (ifS (tor (tnot (tval (bltE bIsi (aCons (nm 2) (aCons (cst (.ty "tuple")) (aNil)))))) (tcmp opEq (nm 2) (tupE (aNil)))) (retS (tupE (aCons (cst .non) (aCons (cst (.str "rows")) (aNil))))) (skipS)) <|
    sqS (forS [4, 5] true (iEnum (nm 2)) (gTup 2 (gCons (gNm 4) (gCons (gNm 5) (gNil)))) (m_comp_error_L1)) <|
    retS (ifE (tval (callP F_are_verdicts (aCons (nm 3) (aCons (bltE bLen (aCons (nm 2) (aNil))) (aNil))))) (cst .non) (tupE (aCons (cst .non) (aCons (cst (.str "verdicts")) (aNil)))))
noncomputable def F_comp_error := runP 1 6 m_comp_error
abbrev v_comp_error : VSp := pV F_comp_error
abbrev s_comp_error : Stmt := topS 9
theorem sc_comp_error : FnScope ["value", "letters", "rows", "verdicts", "state", "row"] ["value"] (defScope s_comp_error) := ⟨rfl, rfl, rfl, by decide +kernel, rfl, by decide +kernel, by decide +kernel⟩
theorem ok_comp_error {f : Addr} {fd : FuncData} (F : Fun K "comp_error" "comp_error" s_comp_error f fd) (T : Txt K mg t_END t_FIGURES t_LETTERS t_MAX_LETTERS t_MOST_FIGURES t_STATE A_HEADS A_WORDS) (D_is_integer : Dc P w K mg base 1 "is_integer" ["value", "least", "most"] v_is_integer) (D_are_verdicts : Dc P w K mg base 2 "are_verdicts" ["value", "states"] v_are_verdicts) (D_is_row : Dc P w K mg base 3 "is_row" ["value", "letters", "states"] v_is_row) : FnG P w K mg base 4 f fd ["value"] (spOf K v_comp_error) := by
  obtain ⟨g_END, g_FIGURES, g_LETTERS, g_MAX_LETTERS, g_MOST_FIGURES, g_STATE, g_abs, g_bool, g_enumerate, g_int, g_isinstance, g_len, g_range, g_repr, g_str, g_tuple, g_HEADS, kt_HEADS, g_WORDS, kt_WORDS⟩ := T
  have sc := sc_comp_error
  refine fnP F sc_comp_error fun cdv A outer s H hr hgd => ?_
  have hu := hu64 hr
  have hu7 := hu70 hr
  exact ss_cons (st_if (t_w (w_or (t_not (t_val (s_callB g_isinstance (by decide +kernel) rfl b_isi (sa_cons (s_nm 0 rfl (.inl rfl)) (sa_cons (s_ty g_tuple rfl (by decide +kernel)) (sa_nil)))))) (w_or1 (t_cmp (so_ne hu) (s_callB g_len (by decide +kernel) rfl b_len (sa_cons (s_nm 0 rfl (.inl rfl)) (sa_nil))) (s_int))))) (ss_one (st_ret (s_tup (sa_cons (s_non) (sa_cons (s_str) (sa_nil)))))) (ss_nil)) (ss_cons (st_asg (s_nm 0 rfl (.inl rfl)) (g_tup rfl rfl rfl (gs_cons (g_nm 1 sc.nd rfl (.inl rfl) (.inl rfl)) (gs_cons (g_nm 2 sc.nd rfl (.inl rfl) (.inl rfl)) (gs_cons (g_nm 3 sc.nd rfl (.inl rfl) (.inl rfl)) (gs_nil)))))) (ss_cons (st_if (t_not (t_val (s_callP (fun _ _ h => runP_im h) D_is_integer (hr.mono (by omega)) hgd rfl (sa_cons (s_nm 1 rfl (.inl rfl)) (sa_cons (s_int) (sa_cons (s_gI g_MAX_LETTERS rfl) (sa_nil))))))) (ss_one (st_ret (s_tup (sa_cons (s_non) (sa_cons (s_str) (sa_nil)))))) (ss_nil)) (ss_cons (st_if (t_w (w_or (t_not (t_val (s_callB g_isinstance (by decide +kernel) rfl b_isi (sa_cons (s_nm 2 rfl (.inl rfl)) (sa_cons (s_ty g_tuple rfl (by decide +kernel)) (sa_nil)))))) (w_or1 (t_cmp (so_eq hu) (s_nm 2 rfl (.inl rfl)) (s_tup (sa_nil)))))) (ss_one (st_ret (s_tup (sa_cons (s_non) (sa_cons (s_str) (sa_nil)))))) (ss_nil)) (ss_cons (st_for [4, 5] true rfl PassesOwn.never (i_enum g_enumerate rfl (s_nm 2 rfl (.inl rfl))) (g_tup rfl rfl rfl (gs_cons (g_nm 4 sc.nd rfl (.inl rfl) (.inl rfl)) (gs_cons (g_nm 5 sc.nd rfl (.inl rfl) (.inl rfl)) (gs_nil)))) (ss_one (st_if (t_not (t_val (s_callP (fun _ _ h => runP_im h) D_is_row (hr.mono (by omega)) hgd rfl (sa_cons (s_nm 5 rfl (.inl rfl)) (sa_cons (s_nm 1 rfl (.inl rfl)) (sa_cons (s_callB g_len (by decide +kernel) rfl b_len (sa_cons (s_nm 2 rfl (.inl rfl)) (sa_nil))) (sa_nil))))))) (ss_one (st_ret (s_tup (sa_cons (s_nm 4 rfl (.inl rfl)) (sa_cons (s_str) (sa_nil)))))) (ss_nil)))) (ss_one (st_ret (s_if (t_val (s_callP (fun _ _ h => runP_im h) D_are_verdicts (hr.mono (by omega)) hgd rfl (sa_cons (s_nm 3 rfl (.inl rfl)) (sa_cons (s_callB g_len (by decide +kernel) rfl b_len (sa_cons (s_nm 2 rfl (.inl rfl)) (sa_nil))) (sa_nil))))) (s_non) (s_tup (sa_cons (s_non) (sa_cons (s_str) (sa_nil)))))))))))
noncomputable def m_are_figures : MS := sqS (ifS (tor (tnot (tch opLe opLe (cst (.int 1)) (bltE bLen (aCons (nm 0) (aNil))) (nm 1))) (tcmp opNe (lcR [2] (app1 2) (iVal (nm 0)) (tcmp opNotIn (nm 2) (cst (.str "0123456789"))) (nm 2)) (rolE (aNil)))) (retS (cst (.bl false))) (skipS)) <|
    retS (orE (binE opEq (nm 0) (cst (.str "0"))) (binE opNe (ixE (nm 0) (cst (.int 0))) (cst (.str "0"))))
noncomputable def F_are_figures := runP 2 3 m_are_figures
abbrev v_are_figures : VSp := pV F_are_figures
abbrev s_are_figures : Stmt := topS 20
theorem sc_are_figures : FnScope ["text", "most", "sign"] ["text", "most"] (defScope s_are_figures) := ⟨rfl, rfl, rfl, by decide +kernel, rfl, by decide +kernel, by decide +kernel⟩
theorem ok_are_figures {f : Addr} {fd : FuncData} (F : Fun K "are_figures" "are_figures" s_are_figures f fd) (T : Txt K mg t_END t_FIGURES t_LETTERS t_MAX_LETTERS t_MOST_FIGURES t_STATE A_HEADS A_WORDS) : FnG P w K mg base 1 f fd ["text", "most"] (spOf K v_are_figures) := by
  obtain ⟨g_END, g_FIGURES, g_LETTERS, g_MAX_LETTERS, g_MOST_FIGURES, g_STATE, g_abs, g_bool, g_enumerate, g_int, g_isinstance, g_len, g_range, g_repr, g_str, g_tuple, g_HEADS, kt_HEADS, g_WORDS, kt_WORDS⟩ := T
  have sc := sc_are_figures
  refine fnP F sc_are_figures fun cdv A outer s H hr hgd => ?_
  have hu := hu64 hr
  have hu7 := hu70 hr
  exact ss_cons (st_if (t_w (w_or (t_not (t_ch so_le so_le (s_int) (s_callB g_len (by decide +kernel) rfl b_len (sa_cons (s_nm 0 rfl (.inl rfl)) (sa_nil))) (s_nm 1 rfl (.inl rfl)) (fun _ _ _ _ h => wt_chain h))) (w_or1 (t_cmp (so_ne hu) (s_lcR rfl sc.nd (own := [("sign", 2)]) (blkOk_by rfl) (tg_name 2 sc.nd rfl rfl (by decide)) (i_val (s_nm 0 rfl (.inl rfl))) (fun _ _ _ _ _ => sts_one (t_cmp so_notIn (s_nm 2 rfl (by first | exact .inl rfl | exact .inr (.inl rfl) | exact .inr (.inr rfl))) (s_gS g_FIGURES rfl))) (fun _ _ _ _ _ => s_nm 2 rfl (by first | exact .inl rfl | exact .inr (.inl rfl) | exact .inr (.inr rfl)))) (s_rol (sa_nil)))))) (ss_one (st_ret (s_bl))) (ss_nil)) (ss_one (st_ret (s_or (s_cmp (so_eq hu) (s_nm 0 rfl (.inl rfl)) (s_str)) (s_or1 (s_cmp (so_ne hu) (s_ix hu (s_nm 0 rfl (.inl rfl)) (s_int)) (s_str))))))
noncomputable def m_is_state_line : MS := sqS (setS 1 (splR (nm 0) (cst (.str " ")))) <|
    sqS (ifS (tor (tcmp opLt (bltE bLen (aCons (nm 1) (aNil))) (cst (.int 3))) (tor (tcmp opNe (ixE (nm 1) (cst (.int 0))) (cst (.str "state"))) (tcmp opNotIn (ixE (nm 1) (cst (.int (-1)))) (cst (.tup ((["less", "same", "more"] : List Str).map D.str)))))) (retS (cst (.bl false))) (skipS)) <|
    retS (binE opEq (lcR [2] (app1 2) (iVal (slR (nm 1) (aP (cst (.int 1))) (aP (cst (.int (-1)))))) (tnot (tval (callP F_are_figures (aCons (nm 2) (aCons (cst (.int 9)) (aNil)))))) (nm 2)) (rolE (aNil)))
noncomputable def F_is_state_line := runP 1 3 m_is_state_line
abbrev v_is_state_line : VSp := pV F_is_state_line
abbrev s_is_state_line : Stmt := topS 21
theorem sc_is_state_line : FnScope ["line", "words", "word"] ["line"] (defScope s_is_state_line) := ⟨rfl, rfl, rfl, by decide +kernel, rfl, by decide +kernel, by decide +kernel⟩
theorem ok_is_state_line {f : Addr} {fd : FuncData} (F : Fun K "is_state_line" "is_state_line" s_is_state_line f fd) (T : Txt K mg t_END t_FIGURES t_LETTERS t_MAX_LETTERS t_MOST_FIGURES t_STATE A_HEADS A_WORDS) (D_are_figures : Dc P w K mg base 1 "are_figures" ["text", "most"] v_are_figures) : FnG P w K mg base 2 f fd ["line"] (spOf K v_is_state_line) := by
  obtain ⟨g_END, g_FIGURES, g_LETTERS, g_MAX_LETTERS, g_MOST_FIGURES, g_STATE, g_abs, g_bool, g_enumerate, g_int, g_isinstance, g_len, g_range, g_repr, g_str, g_tuple, g_HEADS, kt_HEADS, g_WORDS, kt_WORDS⟩ := T
  have sc := sc_is_state_line
  refine fnP F sc_is_state_line fun cdv A outer s H hr hgd => ?_
  have hu := hu64 hr
  have hu7 := hu70 hr
  exact ss_cons (st_set 1 sc.nd rfl (.inl rfl) (.inl rfl) (s_splR (s_nm 0 rfl (.inl rfl)) (s_str))) (ss_cons (st_if (t_w (w_or (t_cmp so_lt (s_callB g_len (by decide +kernel) rfl b_len (sa_cons (s_nm 1 rfl (.inl rfl)) (sa_nil))) (s_int)) (w_or (t_cmp (so_ne hu) (s_ix hu (s_nm 1 rfl (.inl rfl)) (s_int)) (s_gS g_STATE rfl)) (w_or1 (t_cmp so_notIn (s_ix hu (s_nm 1 rfl (.inl rfl)) (s_negC)) (s_gT g_WORDS kt_WORDS rfl)))))) (ss_one (st_ret (s_bl))) (ss_nil)) (ss_one (st_ret (s_cmp (so_eq hu) (s_lcR rfl sc.nd (own := [("word", 2)]) (blkOk_by rfl) (tg_name 2 sc.nd rfl rfl (by decide)) (i_val (s_slR (s_nm 1 rfl (.inl rfl)) (sp_a (s_int)) (sp_a (s_negC)))) (fun _ _ _ _ _ => sts_one (t_not (t_val (s_callP (fun _ _ h => runP_im h) D_are_figures (hr.mono (by omega)) hgd rfl (sa_cons (s_nm 2 rfl (by first | exact .inl rfl | exact .inr (.inl rfl) | exact .inr (.inr rfl))) (sa_cons (s_gI g_MOST_FIGURES rfl) (sa_nil))))))) (fun _ _ _ _ _ => s_nm 2 rfl (by first | exact .inl rfl | exact .inr (.inl rfl) | exact .inr (.inr rfl)))) (s_rol (sa_nil))))))
noncomputable def m_parse_comp_L1 : MS := ifS (tand (tcmp opGt (nm 2) (cst (.int 0))) (tnot (tval (callP F_is_state_line (aCons (nm 3) (aNil)))))) (raiseS "BadText" "line" (aCons (nm 2) (aNil))) (skipS)
noncomputable def m_parse_comp : MS := sqS (ifS (tnot (tval (bltE bIsi (aCons (nm 0) (aCons (cst (.ty "str")) (aNil)))))) (raiseS "BadText" "line" (aCons (cst .non) (aNil))) (skipS)) <|
    sqS (setS 1 (splR (nm 0) (cst (.str "\n")))) <|
    sqS (ifS (tcmp opNotIn (ixE (nm 1) (cst (.int 0))) (cst (.tup ((["letters a", "letters ab", "letters abc"] : List Str).map D.str)))) (raiseS "BadText" "line" (aCons (cst (.int 0)) (aNil))) (skipS)) <|
    sqS (forS [2] true (iEnum (nm 1)) (gTup 2 (gCons (gNm 2) (gCons (gNm 3) (gNil)))) (m_parse_comp_L1)) <|
    sqS (ifS (tcmp opEq (bltE bLen (aCons (nm 1) (aNil))) (cst (.int 1))) (raiseS "BadText" "line" (aCons (cst (.int 1)) (aNil))) (skipS)) <|
    sqS (setS 4 (lcR [3] (app1 3) (iVal (slR (nm 1) (aP (cst (.int 1))) (noP))) (yesT) (splR (nm 3) (cst (.str " "))))) <|
    sqS (setS 5 (bltE bTup (aCons (lcR [7] (app1 7) (iVal (nm 4)) (yesT) (bltE bTup (aCons (lcR [6] (app1 6) (iVal (slR (nm 7) (aP (cst (.int 1))) (aP (cst (.int (-1)))))) (yesT) (bltE bInt (aCons (nm 6) (aNil)))) (aNil)))) (aNil)))) <|
    sqS (setS 8 (tupE (aCons (binE opAdd (tixE ["letters a", "letters ab", "letters abc"] (ixE (nm 1) (cst (.int 0)))) (cst (.int 1))) (aCons (nm 5) (aCons (bltE bTup (aCons (lcR [7] (app1 7) (iVal (nm 4)) (yesT) (binE opSub (tixE ["less", "same", "more"] (ixE (nm 7) (cst (.int (-1))))) (cst (.int 1)))) (aNil))) (aNil)))))) <|
    sqS (setS 9 (callP F_comp_error (aCons (nm 8) (aNil)))) <|
    sqS (ifS (tcmp opNotN (nm 9) (cst .non)) (raiseS "BadComp" "error" (aCons (nm 9) (aNil))) (skipS)) <|
    retS (nm 8)
noncomputable def F_parse_comp := runX 1 10 m_parse_comp
abbrev s_parse_comp : Stmt := topS 22
theorem sc_parse_comp : FnScope ["value", "lines", "index", "line", "words", "rows", "word", "own", "comp", "error"] ["value"] (defScope s_parse_comp) := ⟨rfl, rfl, rfl, by decide +kernel, rfl, by decide +kernel, by decide +kernel⟩
theorem ok_parse_comp {f : Addr} {fd : FuncData} (F : Fun K "parse_comp" "parse_comp" s_parse_comp f fd) (T : Txt K mg t_END t_FIGURES t_LETTERS t_MAX_LETTERS t_MOST_FIGURES t_STATE A_HEADS A_WORDS) (D_comp_error : Dc P w K mg base 4 "comp_error" ["value"] v_comp_error) (D_is_state_line : Dc P w K mg base 2 "is_state_line" ["line"] v_is_state_line) (E_BadText : ErrC P w K mg base 1 "BadText" "line") (E_BadComp : ErrC P w K mg base 1 "BadComp" "error") : FnGX P w K mg base 5 f fd ["value"] (spX K mg F_parse_comp) := by
  obtain ⟨g_END, g_FIGURES, g_LETTERS, g_MAX_LETTERS, g_MOST_FIGURES, g_STATE, g_abs, g_bool, g_enumerate, g_int, g_isinstance, g_len, g_range, g_repr, g_str, g_tuple, g_HEADS, kt_HEADS, g_WORDS, kt_WORDS⟩ := T
  have sc := sc_parse_comp
  refine fnX F sc_parse_comp fun cdv A outer s H E hr hgd => ?_
  have hu := hu64 hr
  have hu7 := hu70 hr
  exact ss_cons (st_if (t_not (t_val (s_callB g_isinstance (by decide +kernel) rfl b_isi (sa_cons (s_nm 0 rfl (.inl rfl)) (sa_cons (s_ty g_str rfl (by decide +kernel)) (sa_nil)))))) (ss_one (st_raise rfl E_BadText (hr.mono (by omega)) rfl (sa_cons (s_non) (sa_nil)))) (ss_nil)) (ss_cons (st_set 1 sc.nd rfl (.inl rfl) (.inl rfl) (s_splR (s_nm 0 rfl (.inl rfl)) (s_str))) (ss_cons (st_if (t_cmp so_notIn (s_ix hu (s_nm 1 rfl (.inl rfl)) (s_int)) (s_gT g_HEADS kt_HEADS rfl)) (ss_one (st_raise rfl E_BadText (hr.mono (by omega)) rfl (sa_cons (s_int) (sa_nil)))) (ss_nil)) (ss_cons (st_for [2] true rfl (passes_of rfl) (i_enum g_enumerate rfl (s_nm 1 rfl (.inl rfl))) (g_tup rfl rfl rfl (gs_cons (g_nm 2 sc.nd rfl (.inl rfl) (.inl rfl)) (gs_cons (g_nm 3 sc.nd rfl (.inl rfl) (.inl rfl)) (gs_nil)))) (ss_one (st_if (t_w (w_and (t_cmp so_gt (s_nm 2 rfl (.inl rfl)) (s_int)) (w_and1 (t_not (t_val (s_callP (fun _ _ h => runP_im h) D_is_state_line (hr.mono (by omega)) hgd rfl (sa_cons (s_nm 3 rfl (.inl rfl)) (sa_nil)))))))) (ss_one (st_raise rfl E_BadText (hr.mono (by omega)) rfl (sa_cons (s_nm 2 rfl (.inl rfl)) (sa_nil)))) (ss_nil)))) (ss_cons (st_if (t_cmp (so_eq hu) (s_callB g_len (by decide +kernel) rfl b_len (sa_cons (s_nm 1 rfl (.inl rfl)) (sa_nil))) (s_int)) (ss_one (st_raise rfl E_BadText (hr.mono (by omega)) rfl (sa_cons (s_int) (sa_nil)))) (ss_nil)) (ss_cons (st_setLcR 4 rfl sc.nd rfl rfl (own := [("line", 3)]) (blkOk_by rfl) (tg_name 3 sc.nd rfl rfl (by decide)) (i_val (s_slR (s_nm 1 rfl (.inl rfl)) (sp_a (s_int)) (sp_no))) (fun _ _ _ _ _ => sts_nil) (fun _ _ _ _ _ => s_splR (s_nm 3 rfl (by first | exact .inl rfl | exact .inr (.inl rfl) | exact .inr (.inr rfl))) (s_str)) (sw_true rfl rfl rfl (by decide +kernel))) (ss_cons (st_set 5 sc.nd rfl (.inl rfl) (.inl rfl) (s_callTy g_tuple (by decide +kernel) rfl b_tup (sa_cons (s_lcR rfl sc.nd (own := [("own", 7)]) (blkOk_by rfl) (tg_name 7 sc.nd rfl rfl (by decide)) (i_val (s_nm 4 rfl (.inl rfl))) (fun _ _ _ _ _ => sts_nil) (fun _ _ _ _ _ => s_callTy g_tuple (by decide +kernel) rfl b_tup (sa_cons (s_lcR rfl sc.nd (own := [("word", 6)]) (blkOk_by rfl) (tg_name 6 sc.nd rfl rfl (by decide)) (i_val (s_slR (s_nm 7 rfl (by first | exact .inl rfl | exact .inr (.inl rfl) | exact .inr (.inr rfl))) (sp_a (s_int)) (sp_a (s_negC)))) (fun _ _ _ _ _ => sts_nil) (fun _ _ _ _ _ => s_callTy g_int (by decide +kernel) rfl b_int (sa_cons (s_nm 6 rfl (by first | exact .inl rfl | exact .inr (.inl rfl) | exact .inr (.inr rfl))) (sa_nil)))) (sa_nil)))) (sa_nil)))) (ss_cons (st_set 8 sc.nd rfl (.inl rfl) (.inl rfl) (s_tup (sa_cons (s_bin so_add (s_tix g_HEADS kt_HEADS rfl (s_ix hu (s_nm 1 rfl (.inl rfl)) (s_int))) (s_int)) (sa_cons (s_nm 5 rfl (.inl rfl)) (sa_cons (s_callTy g_tuple (by decide +kernel) rfl b_tup (sa_cons (s_lcR rfl sc.nd (own := [("own", 7)]) (blkOk_by rfl) (tg_name 7 sc.nd rfl rfl (by decide)) (i_val (s_nm 4 rfl (.inl rfl))) (fun _ _ _ _ _ => sts_nil) (fun _ _ _ _ _ => s_bin so_sub (s_tix g_WORDS kt_WORDS rfl (s_ix hu (s_nm 7 rfl (by first | exact .inl rfl | exact .inr (.inl rfl) | exact .inr (.inr rfl))) (s_negC))) (s_int))) (sa_nil))) (sa_nil)))))) (ss_cons (st_set 9 sc.nd rfl (.inl rfl) (.inl rfl) (s_callP (fun _ _ h => runP_im h) D_comp_error (hr.mono (by omega)) hgd rfl (sa_cons (s_nm 8 rfl (.inl rfl)) (sa_nil)))) (ss_cons (st_if (t_cmp so_isn (s_nm 9 rfl (.inl rfl)) (s_non)) (ss_one (st_raise rfl E_BadComp (hr.mono (by omega)) rfl (sa_cons (s_nm 9 rfl (.inl rfl)) (sa_nil)))) (ss_nil)) (ss_one (st_ret (s_nm 8 rfl (.inl rfl)))))))))))))
noncomputable def m__law_deck : MS := retS (lstE (aCons (lcE [1] (app1 1) (iVal (slR (nm 0) (noP) (aP (cst (.int 63))))) (yesT) (bltE bAbs (aCons (nm 1) (aNil)))) (aCons (cst (.int 0)) (aNil))))
noncomputable def F__law_deck := runA 1 2 m__law_deck
abbrev v__law_deck : VSp := aV F__law_deck
abbrev s__law_deck : Stmt := topS 24
theorem sc__law_deck : FnScope ["_law_script", "_law_cell"] ["_law_script"] (defScope s__law_deck) := ⟨rfl, rfl, rfl, by decide +kernel, rfl, by decide +kernel, by decide +kernel⟩
theorem ok__law_deck {f : Addr} {fd : FuncData} (F : Fun K "_law_deck" "_law_deck" s__law_deck f fd) (T : Txt K mg t_END t_FIGURES t_LETTERS t_MAX_LETTERS t_MOST_FIGURES t_STATE A_HEADS A_WORDS) : FnG P w K mg base 1 f fd ["_law_script"] (spOf K v__law_deck) := by
  obtain ⟨g_END, g_FIGURES, g_LETTERS, g_MAX_LETTERS, g_MOST_FIGURES, g_STATE, g_abs, g_bool, g_enumerate, g_int, g_isinstance, g_len, g_range, g_repr, g_str, g_tuple, g_HEADS, kt_HEADS, g_WORDS, kt_WORDS⟩ := T
  have sc := sc__law_deck
  refine fnA F sc__law_deck fun cdv A outer s H hr hgd => ?_
  have hu := hu64 hr
  have hu7 := hu70 hr
  exact ss_one (st_ret (s_lst (sa_cons (s_lc rfl sc.nd (own := [("_law_cell", 1)]) (blkOk_by rfl) (tg_name 1 sc.nd rfl rfl (by decide)) (i_val (s_slR (s_nm 0 rfl (.inl rfl)) (sp_no) (sp_a (s_int)))) (fun _ _ _ _ _ => sts_nil) (fun _ _ _ _ _ => s_callB g_abs (by decide +kernel) rfl b_abs (sa_cons (s_nm 1 rfl (by first | exact .inl rfl | exact .inr (.inl rfl) | exact .inr (.inr rfl))) (sa_nil)))) (sa_cons (s_int) (sa_nil)))))
noncomputable def m__law_draw : MS := sqS (asgS (gSub (nm 0) (cst (.int 1))) (binE opAdd (ixE (nm 0) (cst (.int 1))) (cst (.int 1)))) <|
    sqS (asgS (gTup 2 (gCons (gNm 2) (gCons (gNm 3) (gNil)))) (tupE (aCons (cst (.int 0)) (aCons (cst (.int (-1))) (aNil))))) <|
    sqS (ifS (tcmp opGt (bltE bLen (aCons (ixE (nm 0) (cst (.int 0))) (aNil))) (cst (.int 0))) (sqS (setS 3 (binE opMod (bltE bInt (aCons (ixE (nm 0) (cst (.int 1))) (aNil))) (bltE bLen (aCons (ixE (nm 0) (cst (.int 0))) (aNil))))) <|
    setS 2 (ixE (ixE (nm 0) (cst (.int 0))) (nm 3))) (skipS)) <|
    sqS (ifS (tcmp opGe (nm 2) (cst (.int 1000000000000000000))) (sqS (asgS (gSub (ixE (nm 0) (cst (.int 0))) (nm 3)) (binE opDiv (bltE bInt (aCons (nm 2) (aNil))) (nm 1))) <|
    retS (binE opMod (bltE bInt (aCons (nm 2) (aNil))) (nm 1))) (skipS)) <|
    sqS (setS 4 (binE opAdd (binE opAdd (binE opMod (bltE bInt (aCons (nm 2) (aNil))) (cst (.int 2147483477))) (binE opMul (cst (.int 11233)) (ixE (nm 0) (cst (.int 1))))) (cst (.int 7)))) <|
    retS (binE opMod (bltE bInt (aCons (binE opMod (bltE bInt (aCons (binE opPow (nm 4) (cst (.int 5))) (aNil))) (cst (.int 2147483563))) (aNil))) (nm 1))
noncomputable def F__law_draw := runK 2 5 m__law_draw
abbrev v__law_draw : VSp := kV F__law_draw
abbrev s__law_draw : Stmt := topS 25
theorem sc__law_draw : FnScope ["_law_deck_here", "_law_many", "_law_cell", "_law_at", "_law_mixed"] ["_law_deck_here", "_law_many"] (defScope s__law_draw) := ⟨rfl, rfl, rfl, by decide +kernel, rfl, by decide +kernel, by decide +kernel⟩
theorem ok__law_draw {f : Addr} {fd : FuncData} (F : Fun K "_law_draw" "_law_draw" s__law_draw f fd) (T : Txt K mg t_END t_FIGURES t_LETTERS t_MAX_LETTERS t_MOST_FIGURES t_STATE A_HEADS A_WORDS) : FnG P w K mg base 1 f fd ["_law_deck_here", "_law_many"] (spOf K v__law_draw) := by
  obtain ⟨g_END, g_FIGURES, g_LETTERS, g_MAX_LETTERS, g_MOST_FIGURES, g_STATE, g_abs, g_bool, g_enumerate, g_int, g_isinstance, g_len, g_range, g_repr, g_str, g_tuple, g_HEADS, kt_HEADS, g_WORDS, kt_WORDS⟩ := T
  have sc := sc__law_draw
  refine fnK F sc__law_draw fun cdv A outer s H hr hgd => ?_
  have hu := hu64 hr
  have hu7 := hu70 hr
  exact ss_cons (st_asg (s_bin so_add (s_ix hu (s_nm 0 rfl (.inl rfl)) (s_int)) (s_int)) (g_sub (s_nm 0 rfl (.inl rfl)) (s_int))) (ss_cons (st_asg (s_tup (sa_cons (s_int) (sa_cons (s_negC) (sa_nil)))) (g_tup rfl rfl rfl (gs_cons (g_nm 2 sc.nd rfl (.inl rfl) (.inl rfl)) (gs_cons (g_nm 3 sc.nd rfl (.inl rfl) (.inl rfl)) (gs_nil))))) (ss_cons (st_if (t_cmp so_gt (s_callB g_len (by decide +kernel) rfl b_len (sa_cons (s_ix hu (s_nm 0 rfl (.inl rfl)) (s_int)) (sa_nil))) (s_int)) (ss_cons (st_set 3 sc.nd rfl (.inl rfl) (.inl rfl) (s_bin so_mod (s_callTy g_int (by decide +kernel) rfl b_int (sa_cons (s_ix hu (s_nm 0 rfl (.inl rfl)) (s_int)) (sa_nil))) (s_callB g_len (by decide +kernel) rfl b_len (sa_cons (s_ix hu (s_nm 0 rfl (.inl rfl)) (s_int)) (sa_nil))))) (ss_one (st_set 2 sc.nd rfl (.inl rfl) (.inl rfl) (s_ix hu (s_ix hu (s_nm 0 rfl (.inl rfl)) (s_int)) (s_nm 3 rfl (.inl rfl)))))) (ss_nil)) (ss_cons (st_if (t_cmp so_ge (s_nm 2 rfl (.inl rfl)) (s_powC (by decide) ⟨by decide, by decide, by decide⟩)) (ss_cons (st_asg (s_bin so_div (s_callTy g_int (by decide +kernel) rfl b_int (sa_cons (s_nm 2 rfl (.inl rfl)) (sa_nil))) (s_nm 1 rfl (.inl rfl))) (g_sub (s_ix hu (s_nm 0 rfl (.inl rfl)) (s_int)) (s_nm 3 rfl (.inl rfl)))) (ss_one (st_ret (s_bin so_mod (s_callTy g_int (by decide +kernel) rfl b_int (sa_cons (s_nm 2 rfl (.inl rfl)) (sa_nil))) (s_nm 1 rfl (.inl rfl)))))) (ss_nil)) (ss_cons (st_set 4 sc.nd rfl (.inl rfl) (.inl rfl) (s_bin so_add (s_bin so_add (s_bin so_mod (s_callTy g_int (by decide +kernel) rfl b_int (sa_cons (s_nm 2 rfl (.inl rfl)) (sa_nil))) (s_int)) (s_bin so_mul (s_int) (s_ix hu (s_nm 0 rfl (.inl rfl)) (s_int)))) (s_int))) (ss_one (st_ret (s_bin so_mod (s_callTy g_int (by decide +kernel) rfl b_int (sa_cons (s_bin so_mod (s_callTy g_int (by decide +kernel) rfl b_int (sa_cons (s_bin so_pow (s_nm 4 rfl (.inl rfl)) (s_int)) (sa_nil))) (s_int)) (sa_nil))) (s_nm 1 rfl (.inl rfl)))))))))
noncomputable def m__law_one : MS := retS (ixE (nm 1) (callK F__law_draw (aCons (nm 0) (aCons (bltE bLen (aCons (nm 1) (aNil))) (aNil)))))
noncomputable def F__law_one := runK 2 2 m__law_one
abbrev v__law_one : VSp := kV F__law_one
abbrev s__law_one : Stmt := topS 26
theorem sc__law_one : FnScope ["_law_deck_here", "_law_items"] ["_law_deck_here", "_law_items"] (defScope s__law_one) := ⟨rfl, rfl, rfl, by decide +kernel, rfl, by decide +kernel, by decide +kernel⟩
theorem ok__law_one {f : Addr} {fd : FuncData} (F : Fun K "_law_one" "_law_one" s__law_one f fd) (T : Txt K mg t_END t_FIGURES t_LETTERS t_MAX_LETTERS t_MOST_FIGURES t_STATE A_HEADS A_WORDS) (D__law_draw : Dc P w K mg base 1 "_law_draw" ["_law_deck_here", "_law_many"] v__law_draw) : FnG P w K mg base 2 f fd ["_law_deck_here", "_law_items"] (spOf K v__law_one) := by
  obtain ⟨g_END, g_FIGURES, g_LETTERS, g_MAX_LETTERS, g_MOST_FIGURES, g_STATE, g_abs, g_bool, g_enumerate, g_int, g_isinstance, g_len, g_range, g_repr, g_str, g_tuple, g_HEADS, kt_HEADS, g_WORDS, kt_WORDS⟩ := T
  have sc := sc__law_one
  refine fnK F sc__law_one fun cdv A outer s H hr hgd => ?_
  have hu := hu64 hr
  have hu7 := hu70 hr
  exact ss_one (st_ret (s_ix hu (s_nm 1 rfl (.inl rfl)) (s_callK (fun _ _ _ _ h => runK_im h) D__law_draw (hr.mono (by omega)) hgd rfl (sa_cons (s_nm 0 rfl (.inl rfl)) (sa_cons (s_callB g_len (by decide +kernel) rfl b_len (sa_cons (s_nm 1 rfl (.inl rfl)) (sa_nil))) (sa_nil))))))
noncomputable def m__law_parsed_b : MS := setS 1 (lstE (aCons (cst (.str "ok")) (aCons (callX F_parse_comp (aCons (nm 0) (aNil))) (aNil))))
abbrev h__law_parsed : List Hd := [⟨"BadText", 2, 1, "line", "line"⟩, ⟨"BadComp", 2, 1, "comp", "error"⟩]
noncomputable def m__law_parsed : MS := sqS (tryS ["BadText", "BadComp"] h__law_parsed m__law_parsed_b) (retS (nm 1))
noncomputable def F__law_parsed := runL 1 3 m__law_parsed
abbrev v__law_parsed : VSp := lV F__law_parsed
abbrev s__law_parsed : Stmt := topS 27
theorem sc__law_parsed : FnScope ["_law_text", "_law_found", "error"] ["_law_text"] (defScope s__law_parsed) := ⟨rfl, rfl, rfl, by decide +kernel, rfl, by decide +kernel, by decide +kernel⟩
theorem ok__law_parsed {f : Addr} {fd : FuncData} (F : Fun K "_law_parsed" "_law_parsed" s__law_parsed f fd) (T : Txt K mg t_END t_FIGURES t_LETTERS t_MAX_LETTERS t_MOST_FIGURES t_STATE A_HEADS A_WORDS) (D_parse_comp : DcX P w K mg base 5 "parse_comp" ["value"] F_parse_comp) (H_BadText : HdC K mg "BadText" "line") (H_BadComp : HdC K mg "BadComp" "error") (EX : ExmP K mg ["BadText", "BadComp"] ["BadText", "BadComp"]) : FnG P w K mg base 6 f fd ["_law_text"] (spOf K v__law_parsed) := by
  obtain ⟨g_END, g_FIGURES, g_LETTERS, g_MAX_LETTERS, g_MOST_FIGURES, g_STATE, g_abs, g_bool, g_enumerate, g_int, g_isinstance, g_len, g_range, g_repr, g_str, g_tuple, g_HEADS, kt_HEADS, g_WORDS, kt_WORDS⟩ := T
  have sc := sc__law_parsed
  obtain ⟨C_BadText, m_BadText, x_BadText, n_BadText⟩ := H_BadText.ex
  obtain ⟨C_BadComp, m_BadComp, x_BadComp, n_BadComp⟩ := H_BadComp.ex
  refine fnL0 F sc__law_parsed fun cdv A outer s H hr hgd => ?_
  have hu := hu64 hr
  have hu7 := hu70 hr
  exact ss0_try (l := h__law_parsed) ["BadText", "BadComp"] rfl rfl sc.nd (fun pn xe => ss_one (st_set 1 sc.nd rfl (.inl rfl) (.inl rfl) (s_lst (sa_cons (s_str) (sa_cons (s_callX D_parse_comp (hr.mono (by omega)) hgd rfl (sa_cons (s_nm 0 rfl (.inl rfl)) (sa_nil))) (sa_nil)))))) (HdOk.cons (h := ⟨"BadText", 2, 1, "line", "line"⟩) rfl (by decide) m_BadText rfl rfl x_BadText n_BadText (fun a oe cls d pn hz hf => pss_one (ps_set sc.nd rfl (.inl rfl) (pe_lst (pa_cons pe_str (pa_cons (pe_xf x_BadText n_BadText hz hf (pe_var rfl (.inl rfl))) pa_nil))))) (HdOk.cons (h := ⟨"BadComp", 2, 1, "comp", "error"⟩) rfl (by decide) m_BadComp rfl rfl x_BadComp n_BadComp (fun a oe cls d pn hz hf => pss_one (ps_set sc.nd rfl (.inl rfl) (pe_lst (pa_cons pe_str (pa_cons (pe_xf x_BadComp n_BadComp hz hf (pe_var rfl (.inl rfl))) pa_nil))))) HdOk.nil)) EX.hds (ss_one (st_ret (s_nm 1 rfl (.inl rfl))))
noncomputable def m_law_L1 : MS := ifS (tcmp opNe (bltE bRepr (aCons (callR F__law_parsed (aCons (mthE "str" mJoin (cst (.str "\n")) (aCons (catR (catR (slR (nm 4) (noP) (aP (nm 5))) (rolE (aCons (nm 10) (aNil)))) (slR (nm 4) (aP (binE opAdd (nm 5) (cst (.int 1)))) (noP))) (aNil))) (aNil))) (aNil))) (bltE bRepr (aCons (rolE (aCons (cst (.str "line")) (aCons (nm 5) (aNil)))) (aNil)))) (retS (cst (.bl false))) (skipS)
noncomputable def m_law_L2 : MS := sqS (setS 3 (binE opAdd (cst (.int 2)) (callK F__law_draw (aCons (nm 1) (aCons (cst (.int 150)) (aNil)))))) <|
    sqS (setS 4 (catR (rolE (aCons (callK F__law_one (aCons (nm 1) (aCons (rolE (aCons (cst (.str "letters a")) (aCons (cst (.str "letters ab")) (aCons (cst (.str "letters abc")) (aNil))))) (aNil)))) (aNil))) (mulR (rolE (aCons (cst (.str "state 0 22 same")) (aNil))) (nm 3)))) <|
    sqS (setS 5 (binE opAdd (cst (.int 1)) (callK F__law_draw (aCons (nm 1) (aCons (nm 3) (aNil)))))) <|
    sqS (setS 6 (lcR [7] (app1 7) (iRange1 (callK F__law_one (aCons (nm 1) (aCons (rolE (aCons (cst (.int 1)) (aCons (cst (.int 50)) (aCons (cst (.int 120)) (aNil))))) (aNil))))) (yesT) (bltE bStr (aCons (callK F__law_draw (aCons (nm 1) (aCons (cst (.int 1000)) (aNil)))) (aNil))))) <|
    sqS (setS 8 (mthE "str" mJoin (cst (.str " ")) (aCons (catR (catR (rolE (aCons (cst (.str "state")) (aNil))) (nm 6)) (rolE (aCons (callK F__law_one (aCons (nm 1) (aCons (rolE (aCons (cst (.str "less")) (aCons (cst (.str "same")) (aCons (cst (.str "more")) (aNil))))) (aNil)))) (aNil)))) (aNil)))) <|
    sqS (ifS (tcmp opNe (ixE (callR F__law_parsed (aCons (mthE "str" mJoin (cst (.str "\n")) (aCons (nm 4) (aNil))) (aNil))) (cst (.int 0))) (cst (.str "comp"))) (retS (cst (.bl false))) (skipS)) <|
    sqS (ifS (tcmp opNe (ixE (callR F__law_parsed (aCons (mthE "str" mJoin (cst (.str "\n")) (aCons (catR (catR (slR (nm 4) (noP) (aP (nm 5))) (rolE (aCons (nm 8) (aNil)))) (slR (nm 4) (aP (binE opAdd (nm 5) (cst (.int 1)))) (noP))) (aNil))) (aNil))) (cst (.int 0))) (cst (.str "comp"))) (retS (cst (.bl false))) (skipS)) <|
    sqS (setS 9 (rolE (aCons (cst (.str "")) (aCons (cst (.str "x")) (aCons (cst (.str "letters a")) (aCons (cst (.str "state")) (aCons (cst (.str "state same")) (aCons (cst (.str "state 1  2 same")) (aCons (binE opAdd (nm 8) (cst (.str " "))) (aCons (binE opAdd (nm 8) (cst (.str " 1"))) (aCons (slR (nm 8) (noP) (aP (cst (.int (-1))))) (aNil)))))))))))) <|
    sqS (forS [10] true (iFrz (catR (nm 9) (rolE (aCons (replE "state" "states" (nm 8)) (aCons (cst (.str "state 01 same")) (aCons (binE opAdd (cst (.str " ")) (nm 8)) (aCons (binE opAdd (binE opAdd (cst (.str "state ")) (binE opMul (cst (.str "1")) (cst (.int 10)))) (cst (.str " same"))) (aNil)))))))) (gNm 10) (m_law_L1)) <|
    sqS (ifS (tcmp opNe (bltE bRepr (aCons (callR F__law_parsed (aCons (mthE "str" mJoin (cst (.str "\n")) (aCons (catR (nm 4) (rolE (aCons (cst (.str "state 1,1 same")) (aNil)))) (aNil))) (aNil))) (aNil))) (bltE bRepr (aCons (rolE (aCons (cst (.str "line")) (aCons (binE opAdd (nm 3) (cst (.int 1))) (aNil)))) (aNil)))) (retS (cst (.bl false))) (skipS)) <|
    ifS (tcmp opNe (bltE bRepr (aCons (callR F__law_parsed (aCons (mthE "str" mJoin (cst (.str "\n")) (aCons (catR (rolE (aCons (cst (.str "letters b")) (aNil))) (slR (nm 4) (aP (cst (.int 1))) (noP))) (aNil))) (aNil))) (aNil))) (bltE bRepr (aCons (rolE (aCons (cst (.str "line")) (aCons (cst (.int 0)) (aNil)))) (aNil)))) (retS (cst (.bl false))) (skipS)
noncomputable def m_law : MS := sqS (setS 1 (callA F__law_deck (aCons (nm 0) (aNil)))) <|
    sqS (forS [2, 3, 4, 5, 6, 8, 9, 10] true (iRange1 (cst (.int 8))) (gNm 2) (m_law_L2)) <|
    retS (cst (.bl true))
noncomputable def F_law := runP 1 11 m_law
abbrev v_law : VSp := pV F_law
abbrev s_law : Stmt := topS 28
theorem sc_law : FnScope ["_law_script", "_law_deck_here", "_law_turn", "_law_many", "_law_lines", "_law_at", "_law_row", "_law_k", "_law_wide", "_law_some", "_law_odd"] ["_law_script"] (defScope s_law) := ⟨rfl, rfl, rfl, by decide +kernel, rfl, by decide +kernel, by decide +kernel⟩
theorem ok_law {f : Addr} {fd : FuncData} (F : Fun K "law" "law" s_law f fd) (T : Txt K mg t_END t_FIGURES t_LETTERS t_MAX_LETTERS t_MOST_FIGURES t_STATE A_HEADS A_WORDS) (D__law_deck : Dc P w K mg base 1 "_law_deck" ["_law_script"] v__law_deck) (D__law_draw : Dc P w K mg base 1 "_law_draw" ["_law_deck_here", "_law_many"] v__law_draw) (D__law_one : Dc P w K mg base 2 "_law_one" ["_law_deck_here", "_law_items"] v__law_one) (D__law_parsed : Dc P w K mg base 6 "_law_parsed" ["_law_text"] v__law_parsed) : FnG P w K mg base 7 f fd ["_law_script"] (spOf K v_law) := by
  obtain ⟨g_END, g_FIGURES, g_LETTERS, g_MAX_LETTERS, g_MOST_FIGURES, g_STATE, g_abs, g_bool, g_enumerate, g_int, g_isinstance, g_len, g_range, g_repr, g_str, g_tuple, g_HEADS, kt_HEADS, g_WORDS, kt_WORDS⟩ := T
  have sc := sc_law
  refine fnP F sc_law fun cdv A outer s H hr hgd => ?_
  have hu := hu64 hr
  have hu7 := hu70 hr
  exact ss_cons (st_set 1 sc.nd rfl (.inr rfl) (.inl rfl) (s_callA D__law_deck (hr.mono (by omega)) hgd rfl (sa_cons (s_nm 0 rfl (.inl rfl)) (sa_nil)))) (ss_cons (st_for [2, 3, 4, 5, 6, 8, 9, 10] true rfl PassesOwn.never (i_range1 g_range rfl (s_int)) (g_nm 2 sc.nd rfl (.inl rfl) (.inl rfl)) (ss_cons (st_set 3 sc.nd rfl (.inl rfl) (.inl rfl) (s_bin so_add (s_int) (s_callK (fun _ _ _ _ h => runK_im h) D__law_draw (hr.mono (by omega)) hgd rfl (sa_cons (s_nm 1 rfl (.inr (.inl rfl))) (sa_cons (s_int) (sa_nil)))))) (ss_cons (st_set 4 sc.nd rfl (.inl rfl) (.inl rfl) (s_catR (s_rol (sa_cons (s_callK (fun _ _ _ _ h => runK_im h) D__law_one (hr.mono (by omega)) hgd rfl (sa_cons (s_nm 1 rfl (.inr (.inl rfl))) (sa_cons (s_rol (sa_cons (s_str) (sa_cons (s_str) (sa_cons (s_str) (sa_nil))))) (sa_nil)))) (sa_nil))) (s_mulR (s_rol (sa_cons (s_str) (sa_nil))) (s_nm 3 rfl (.inl rfl))))) (ss_cons (st_set 5 sc.nd rfl (.inl rfl) (.inl rfl) (s_bin so_add (s_int) (s_callK (fun _ _ _ _ h => runK_im h) D__law_draw (hr.mono (by omega)) hgd rfl (sa_cons (s_nm 1 rfl (.inr (.inl rfl))) (sa_cons (s_nm 3 rfl (.inl rfl)) (sa_nil)))))) (ss_cons (st_setLcR 6 rfl sc.nd rfl rfl (own := [("_law_k", 7)]) (blkOk_by rfl) (tg_name 7 sc.nd rfl rfl (by decide)) (i_range1 g_range rfl (s_callK (fun _ _ _ _ h => runK_im h) D__law_one (hr.mono (by omega)) hgd rfl (sa_cons (s_nm 1 rfl (.inr (.inl rfl))) (sa_cons (s_rol (sa_cons (s_int) (sa_cons (s_int) (sa_cons (s_int) (sa_nil))))) (sa_nil))))) (fun _ _ _ _ _ => sts_nil) (fun _ _ _ _ _ => s_callTy g_str (by decide +kernel) rfl b_str (sa_cons (s_callK (fun _ _ _ _ h => runK_im h) D__law_draw (hr.mono (by omega)) hgd rfl (sa_cons (s_nm 1 rfl (.inr (.inl rfl))) (sa_cons (s_int) (sa_nil)))) (sa_nil))) (sw_true rfl rfl rfl (by decide +kernel))) (ss_cons (st_set 8 sc.nd rfl (.inl rfl) (.inl rfl) (s_mth PySem.F.plainAttrs_str PySem.F.slot_str_join PySem.F.type_str_join m_join (s_str) (sa_cons (s_catR (s_catR (s_rol (sa_cons (s_str) (sa_nil))) (s_nm 6 rfl (.inl rfl))) (s_rol (sa_cons (s_callK (fun _ _ _ _ h => runK_im h) D__law_one (hr.mono (by omega)) hgd rfl (sa_cons (s_nm 1 rfl (.inr (.inl rfl))) (sa_cons (s_rol (sa_cons (s_str) (sa_cons (s_str) (sa_cons (s_str) (sa_nil))))) (sa_nil)))) (sa_nil)))) (sa_nil)))) (ss_cons (st_if (t_cmp (so_ne hu) (s_ix hu (s_callR (fun _ _ h => runL_im h) D__law_parsed (hr.mono (by omega)) hgd rfl (sa_cons (s_mth PySem.F.plainAttrs_str PySem.F.slot_str_join PySem.F.type_str_join m_join (s_str) (sa_cons (s_nm 4 rfl (.inl rfl)) (sa_nil))) (sa_nil))) (s_int)) (s_str)) (ss_one (st_ret (s_bl))) (ss_nil)) (ss_cons (st_if (t_cmp (so_ne hu) (s_ix hu (s_callR (fun _ _ h => runL_im h) D__law_parsed (hr.mono (by omega)) hgd rfl (sa_cons (s_mth PySem.F.plainAttrs_str PySem.F.slot_str_join PySem.F.type_str_join m_join (s_str) (sa_cons (s_catR (s_catR (s_slR (s_nm 4 rfl (.inl rfl)) (sp_no) (sp_a (s_nm 5 rfl (.inl rfl)))) (s_rol (sa_cons (s_nm 8 rfl (.inl rfl)) (sa_nil)))) (s_slR (s_nm 4 rfl (.inl rfl)) (sp_a (s_bin so_add (s_nm 5 rfl (.inl rfl)) (s_int))) (sp_no))) (sa_nil))) (sa_nil))) (s_int)) (s_str)) (ss_one (st_ret (s_bl))) (ss_nil)) (ss_tok (st_set 9 sc.nd rfl (.inl rfl) (.inl rfl) (s_rol (sa_cons (s_str) (sa_cons (s_str) (sa_cons (s_str) (sa_cons (s_str) (sa_cons (s_str) (sa_cons (s_str) (sa_cons (s_bin so_add (s_nm 8 rfl (.inl rfl)) (s_str)) (sa_cons (s_bin so_add (s_nm 8 rfl (.inl rfl)) (s_str)) (sa_cons (s_slR (s_nm 8 rfl (.inl rfl)) (sp_no) (sp_a (s_negC))) (sa_nil)))))))))))) (tok_asg tok_lst rfl) (sst_cons (stt_for [10] true rfl PassesOwn.never (it_frz (set_catR (set_of' (s_nm 9 rfl (.inl rfl))) (set_rol (sat_cons (set_repl (by decide +kernel) (s_nm 8 rfl (.inl rfl))) (sat_of' (sa_cons (s_str) (sa_cons (s_bin so_add (s_str) (s_nm 8 rfl (.inl rfl))) (sa_cons (s_bin so_add (s_bin so_add (s_str) (s_bin so_mul (s_str) (s_int))) (s_str)) (sa_nil))))))))) (g_nm 10 sc.nd rfl (.inl rfl) (.inl rfl)) (ss_one (st_if (t_cmp (so_ne hu) (s_callB g_repr (by decide +kernel) rfl (b_repr hgd hu7) (sa_cons (s_callR (fun _ _ h => runL_im h) D__law_parsed (hr.mono (by omega)) hgd rfl (sa_cons (s_mth PySem.F.plainAttrs_str PySem.F.slot_str_join PySem.F.type_str_join m_join (s_str) (sa_cons (s_catR (s_catR (s_slR (s_nm 4 rfl (.inl rfl)) (sp_no) (sp_a (s_nm 5 rfl (.inl rfl)))) (s_rol (sa_cons (s_nm 10 rfl (.inl rfl)) (sa_nil)))) (s_slR (s_nm 4 rfl (.inl rfl)) (sp_a (s_bin so_add (s_nm 5 rfl (.inl rfl)) (s_int))) (sp_no))) (sa_nil))) (sa_nil))) (sa_nil))) (s_callB g_repr (by decide +kernel) rfl (b_repr hgd hu7) (sa_cons (s_rol (sa_cons (s_str) (sa_cons (s_nm 5 rfl (.inl rfl)) (sa_nil)))) (sa_nil)))) (ss_one (st_ret (s_bl))) (ss_nil)))) (sst_of (ss_cons (st_if (t_cmp (so_ne hu) (s_callB g_repr (by decide +kernel) rfl (b_repr hgd hu7) (sa_cons (s_callR (fun _ _ h => runL_im h) D__law_parsed (hr.mono (by omega)) hgd rfl (sa_cons (s_mth PySem.F.plainAttrs_str PySem.F.slot_str_join PySem.F.type_str_join m_join (s_str) (sa_cons (s_catR (s_nm 4 rfl (.inl rfl)) (s_rol (sa_cons (s_str) (sa_nil)))) (sa_nil))) (sa_nil))) (sa_nil))) (s_callB g_repr (by decide +kernel) rfl (b_repr hgd hu7) (sa_cons (s_rol (sa_cons (s_str) (sa_cons (s_bin so_add (s_nm 3 rfl (.inl rfl)) (s_int)) (sa_nil)))) (sa_nil)))) (ss_one (st_ret (s_bl))) (ss_nil)) (ss_one (st_if (t_cmp (so_ne hu) (s_callB g_repr (by decide +kernel) rfl (b_repr hgd hu7) (sa_cons (s_callR (fun _ _ h => runL_im h) D__law_parsed (hr.mono (by omega)) hgd rfl (sa_cons (s_mth PySem.F.plainAttrs_str PySem.F.slot_str_join PySem.F.type_str_join m_join (s_str) (sa_cons (s_catR (s_rol (sa_cons (s_str) (sa_nil))) (s_slR (s_nm 4 rfl (.inl rfl)) (sp_a (s_int)) (sp_no))) (sa_nil))) (sa_nil))) (sa_nil))) (s_callB g_repr (by decide +kernel) rfl (b_repr hgd hu7) (sa_cons (s_rol (sa_cons (s_str) (sa_cons (s_int) (sa_nil)))) (sa_nil)))) (ss_one (st_ret (s_bl))) (ss_nil))))))))))))))) (ss_one (st_ret (s_bl))))
end
theorem law_draw_eq {q : Dk} {n : Int} (ok : DkOk q.1 q.2) (h0 : 0 < n) (h1 : n ≤ 1000000000000000000000000000000000000000) (hc : q.2 + 1 ≤ dkMost) : ∃ k q', F__law_draw [.int n] q = some (.int k, q') ∧ 0 ≤ k ∧ k < n ∧ DkOk q'.1 q'.2 ∧ q'.2 = q.2 + 1 := by
  obtain ⟨cells, c⟩ := q
  have c0 : 0 ≤ c := ok.cn
  have hcc : c + 1 ≤ 1099511627776 := hc
  have hm : CMul 11233 (c + 1) := .inl ⟨by decide, by decide⟩
  have hk : ∀ cell : Int, CPow (cell % 2147483477 + 11233 * (c + 1) + 7) 5 := fun cell => ⟨by decide, by decide, by omega⟩
  have fin : ∀ (cells' : List Int) (x : Int), (∀ y ∈ cells', 0 ≤ y) → cells'.length ≤ 63 → F__law_draw [.int n] (cells, c) = some (.int (x % n), (cells', c + 1)) → ∃ k q', F__law_draw [.int n] (cells, c) = some (.int k, q') ∧ 0 ≤ k ∧ k < n ∧ DkOk q'.1 q'.2 ∧ q'.2 = c + 1 := fun cells' x h2 h3 e =>
    ⟨_, _, e, Int.emod_nonneg _ (by omega), Int.emod_lt_of_pos _ h0, ⟨h2, h3, by show 0 ≤ c + 1; omega⟩, rfl⟩
  by_cases hl : cells = []
  · subst hl
    have hk0 := hk 0
    rw [Int.zero_emod] at hk0
    exact fin [] ((0 + 11233 * (c + 1) + 7) ^ 5 % 2147483563) (fun _ h => absurd h List.not_mem_nil) (by decide) (by simp [F__law_draw, m__law_draw, runK, dkS, dk, hm, -Int.zero_add, hk0, h0])
  · have hpos : 0 < cells.length := List.length_pos_iff.mpr hl
    have hne : (0 : Int) < cells.length := by omega
    obtain ⟨j, hj⟩ : ∃ j : Nat, (c + 1) % (cells.length : Int) = j := ⟨((c + 1) % (cells.length : Int)).toNat, by rw [Int.toNat_of_nonneg (Int.emod_nonneg _ (by omega))]⟩
    have hjl : j < cells.length := by have := Int.emod_lt_of_pos (c + 1) hne; omega
    have hcell : 0 ≤ cells[j] := ok.nn _ (List.getElem_mem hjl)
    have hdv : CDivW cells[j] n := divw h0 h1
    by_cases hb : 1000000000000000000 ≤ cells[j]
    · refine fin (cells.set j (cells[j] / n)) cells[j] (fun x hx => ?_) (by rw [List.length_set]; exact ok.len) (by simp [F__law_draw, m__law_draw, runK, dkS, dk, hm, hk, h0, hpos, hj, hjl, hb, hdv])
      rcases List.mem_or_eq_of_mem_set hx with h | h
      · exact ok.nn x h
      · rw [h]; exact Int.ediv_nonneg hcell (by omega)
    · exact fin cells ((cells[j] % 2147483477 + 11233 * (c + 1) + 7) ^ 5 % 2147483563) ok.nn ok.len (by simp [F__law_draw, m__law_draw, runK, dkS, dk, hm, hk, h0, hpos, hj, hjl, hb])
theorem law_one_eq {q : Dk} {xs : List D} (ok : DkOk q.1 q.2) (h0 : xs ≠ []) (hi : imAll xs = true) (h1 : xs.length ≤ 1000000) (hc : q.2 + 1 ≤ dkMost) : ∃ a q', F__law_one [.rol xs] q = some (a, q') ∧ a ∈ xs ∧ DkOk q'.1 q'.2 ∧ q'.2 = q.2 + 1 := by
  have hpos : 0 < xs.length := List.length_pos_iff.mpr h0
  obtain ⟨k, q', e, k0, k1, ok', hq⟩ := law_draw_eq (n := xs.length) ok (by omega) (by omega) hc
  obtain ⟨j, rfl⟩ : ∃ j : Nat, k = j := ⟨k.toNat, by omega⟩
  have hj : j < xs.length := by omega
  refine ⟨xs[j], q', ?_, List.getElem_mem hj, ok', hq⟩
  have him : xs[j].im = true := imAll_iff.mp hi _ (List.getElem_mem hj)
  simp [F__law_one, m__law_one, runK, e, hj, him]
/-- what a word's digits tell -/
def numV (w : Str) : Nat := PySem.NumText.digitsVal (tl w)
theorem digits_lt : ∀ (l : List Nat) (a : Nat), (∀ c ∈ l, 48 ≤ c ∧ c ≤ 57) → l.foldl (fun acc c => acc * 10 + (c - 48)) a < (a + 1) * 10 ^ l.length
  | [], a, _ => by simp
  | c :: l, a, h => by
    rw [List.foldl_cons]
    refine Nat.lt_of_lt_of_le (digits_lt l _ fun x hx => h x (List.mem_cons_of_mem _ hx)) ?_
    rw [List.length_cons, Nat.pow_succ, Nat.mul_comm (10 ^ l.length) 10, ← Nat.mul_assoc]
    have := h c List.mem_cons_self
    exact Nat.mul_le_mul_right _ (by omega)
theorem fig_parts {w : Str} {m : Int} (h : figB (tl w) m = true) : 1 ≤ w.length ∧ (w.length : Int) ≤ m ∧ ∀ c ∈ tl w, 48 ≤ c ∧ c ≤ 57 := by
  unfold figB at h
  rw [tl_len] at h
  simp only [Bool.and_eq_true, decide_eq_true_eq, List.isEmpty_iff, List.filter_eq_nil_iff] at h
  obtain ⟨⟨⟨h1, h2⟩, h3⟩, _⟩ := h
  refine ⟨by omega, h2, fun c hc => ?_⟩
  have := h3 c hc
  have hm : c ∈ figs := by simpa using this
  have key : ∀ c ∈ figs, 48 ≤ c ∧ c ≤ 57 := by decide +kernel
  exact key c hm
theorem fig_num {w : Str} (h : figB (tl w) 9 = true) : PySem.intText? w = some (numV w : Int) ∧ numV w < 1000000000 ∧ w.length ≤ 640 := by
  obtain ⟨h1, h2, h3⟩ := fig_parts h
  have hl : (tl w).length = w.length := tl_len w
  refine ⟨PySem.intText_digits (x := w) h3 ?_ (by omega), ?_, by omega⟩
  · intro e
    have e' : tl w = [] := e
    rw [e'] at hl
    simp at hl
    omega
  · have := digits_lt (tl w) 0 h3
    rw [Nat.zero_add, Nat.one_mul] at this
    refine Nat.lt_of_lt_of_le this ?_
    rw [hl]
    exact Nat.le_trans (Nat.pow_le_pow_right (by decide) (show w.length ≤ 9 by omega)) (by decide)
def wordsOf (l : Str) : List Str := Txt.split l " "
def rowOfW (ws : List Str) : List Nat := (cutN ws (some 1) (some (-1))).map numV
def markOfW (ws : List Str) : Int := ((wordL.findIdx? fun z => decide (z = ws.getLastD "")).getD 0 : Nat) - 1
def compOfW (j : Nat) (ls : List Str) : D := .tup [.int ((j : Int) + 1), .tup (ls.map fun l => rowD (rowOfW (wordsOf l))), .tup (ls.map fun l => .int (markOfW (wordsOf l)))]
/-- the first wrong line behind the head -/
def wrongL (ls : List Str) : Option Nat := ls.findIdx? fun l => !wordsB (wordsOf l)
def xBadText (i : Nat) : XO := .exc ⟨"BadText", [("line", .int i)]⟩
def parseG (x : Str) : XO := match Txt.split x "\n" with
  | [] => .bad
  | h :: ls => match headL.findIdx? fun z => decide (z = h) with
    | none => xBadText 0
    | some j => match wrongL ls with
      | some i => xBadText (i + 1)
      | none => if ls = [] then xBadText 1 else if errD (compOfW j ls) = .non then .val (compOfW j ls) else .exc ⟨"BadComp", [("error", errD (compOfW j ls))]⟩
theorem is_integer_eq {d : D} (h : d.val = true) (lo hi : Int) : F_is_integer [d, .int lo, .int hi] = some (.bl (intInD lo hi d)) := by
  have hk := val_tyK h
  cases d with
  | int i => by_cases h1 : lo ≤ i <;> simp [F_is_integer, m_is_integer, runP, tyK, isIntB, isBlB, intInD, h1]
  | _ => first
    | (cases hk; done)
    | simp [F_is_integer, m_is_integer, runP, tyK, isIntB, isBlB, intInD]
theorem columns_eq {L : Nat} (h1 : 1 ≤ L) (h3 : L ≤ 3) : F_columns [.int L] = some (.tup ((colsN L).map dS)) := by
  rcases lcase h1 h3 with rfl | rfl | rfl <;> exact oeqb_eq (by decide +kernel)
theorem log_small {n : Nat} (h : n < 4096) : n.log2 < 1920 := by
  by_cases h0 : n = 0
  · subst h0; decide
  · have : n.log2 < 12 := (Nat.log2_lt h0).mpr (by have : (2 : Nat) ^ 12 = 4096 := by decide
                                                   omega)
    omega
theorem text_bound {c : Cmp} (ok : WrOk c) : ((linesS c).map (·.length)).sum + (linesS c).length * ("\n" : Str).length ≤ 16777216 := by
  have hf := ok.few
  have hs := sum_le (ys := linesS c) (b := 187) fun y hy => by
    rcases List.mem_cons.mp hy with rfl | hy
    · exact Nat.le_trans (head_len c.L) (by decide)
    · obtain ⟨p, hp, rfl⟩ := List.mem_map.mp hy
      have ro := ok.row _ (List.of_mem_zip hp).1
      exact line_len (fun n hn => Nat.lt_trans (ro.lt n hn) (by decide)) ro.len
  have h2 : (linesS c).length ≤ 401 := by unfold linesS; rw [List.length_cons, List.length_map, List.length_zip]; omega
  have h3 : (("\n" : Str)).length = 1 := by decide +kernel
  rw [h3]
  have : (linesS c).length * 187 ≤ 401 * 187 := Nat.mul_le_mul_right _ h2
  omega
theorem sign_im (l : List Nat) : imAll (l.map fun c => D.str (mkS [c])) = true := imAll_map fun _ _ => rfl
theorem sign_map (l : List Nat) : (l.map fun c => D.str (mkS [c])) = [] ↔ l = [] := List.map_eq_nil_iff
theorem figB_cut {l : List Nat} {m : Int} (h : ¬ ((1 : Int) ≤ l.length ∧ (l.length : Int) ≤ m)) : figB l m = false := by
  unfold figB
  by_cases h1 : (1 : Int) ≤ l.length
  · rw [decide_eq_false fun h2 => h ⟨h1, h2⟩, Bool.and_false]; rfl
  · rw [decide_eq_false h1]; rfl
theorem figB_in {l : List Nat} {m : Int} (h1 : (1 : Int) ≤ l.length) (h2 : (l.length : Int) ≤ m) : figB l m = ((l.filter fun c => !decide (c ∈ figs)).isEmpty && (decide (mkS l = "0") || !decide (mkS (l.take 1) = "0"))) := by
  unfold figB
  rw [decide_eq_true h1, decide_eq_true h2]; rfl
theorem are_figures_eq {x : Str} {m : Int} (hx : x.length ≤ 16777216) : F_are_figures [.str x, .int m] = some (.bl (figB (tl x) m)) := by
  have e := lcL_mapE (g := .tt) (app := app1 2) (ds0 := [some (.str x), some (.int m), none]) (tst := tcmp opNotIn (nm 2) (cst (.str "0123456789"))) (elt := nm 2) (m := []) (tl x) (fun c => D.str (mkS [c])) (fun c => !decide (c ∈ figs)) (fun c => D.str (mkS [c])) trivial (fun c hc => ⟨_, rfl, by simp [figs], by simp⟩)
  have hl : (tl x).length = x.length := tl_len x
  have hi := sign_im ((tl x).filter fun c => !decide (c ∈ figs))
  have hz : ((tl x).filter fun c => !decide (c ∈ figs)).length ≤ 16777216 := Nat.le_trans (List.length_filter_le ..) (by omega)
  have hxs : x.cps.size ≤ 16777216 := hx
  have hmk : mkS (tl x) = x := by cases x; rfl
  by_cases h1 : (1 : Int) ≤ x.length
  · by_cases h2 : (x.length : Int) ≤ m
    · rw [figB_in (by rw [hl]; exact h1) (by rw [hl]; exact h2), hmk]
      unfold tl at e hl hi hz ⊢
      by_cases h3 : (List.filter (fun c => !decide (c ∈ figs)) x.cps.toList) = []
      · rw [h3] at e hi hz ⊢
        simp at e
        obtain ⟨c0, hc0, ht⟩ : ∃ c0, x.cps[0]? = some c0 ∧ x.cps.toList.take 1 = [c0] := by
          rw [← Array.getElem?_toList]
          have h : 1 ≤ x.cps.toList.length := by rw [hl]; omega
          match x.cps.toList, h with
          | c0 :: r, _ => exact ⟨c0, rfl, rfl⟩
        rw [ht]
        by_cases h4 : x = Str.ofString "0"
        · simp [F_are_figures, m_are_figures, runP, hx, h1, h2, hxs, e, hi, hz, eq_true h4, hc0]
        · by_cases h5 : mkS [c0] = Str.ofString "0" <;> simp [F_are_figures, m_are_figures, runP, hx, h1, h2, hxs, e, hi, hz, h4, hc0, h5]
      · obtain ⟨c, r, hc⟩ := List.exists_cons_of_ne_nil h3
        rw [hc] at e hi hz ⊢
        simp at e hi hz
        simp [F_are_figures, m_are_figures, runP, hx, h1, h2, hxs, e, hi, hz]
    · rw [figB_cut fun h => h2 (hl ▸ h.2)]
      simp [F_are_figures, m_are_figures, runP, hx, h1, h2]
  · rw [figB_cut fun h => h1 (hl ▸ h.1)]
    simp [F_are_figures, m_are_figures, runP, hx, h1]
theorem parts_three {ws : List Str} (h : 3 ≤ ws.length) : ∃ a b r z, ws = a :: (b :: r ++ [z]) := three (by omega)
theorem is_state_line_eq {x : Str} (hx : x.length + 2 ≤ 16777216) : F_is_state_line [.str x] = some (.bl (wordsB (Txt.split x " "))) := by
  have hc := split_count x " "
  have hs1 : ((" " : Str).length == 0) = false := by decide +kernel
  by_cases h3 : 3 ≤ (Txt.split x " ").length
  · obtain ⟨a, b, r, z, hw⟩ := parts_three h3
    have hm : ∀ y ∈ Txt.split x " ", y.length ≤ 16777216 := fun y hy => Nat.le_trans (split_len hy) (by omega)
    rw [hw] at hm hc ⊢
    rw [wordsB_mk]
    have e := lcL_mapE (g := .tt) (app := app1 2) (ds0 := [some (.str x), some (.rol ((a :: (b :: r ++ [z])).map D.str)), none]) (tst := tnot (tval (callP F_are_figures (aCons (nm 2) (aCons (cst (.int 9)) aNil))))) (elt := nm 2) (m := []) (b :: r) D.str (fun y => !figB (tl y) 9) D.str trivial (fun y hy => ⟨_, rfl, by
      have := are_figures_eq (m := 9) (hm y (List.mem_cons_of_mem _ (List.mem_append_left _ hy)))
      simp [this], by simp⟩)
    have hx' : x.length ≤ 16777214 := by omega
    have hn : ¬ ((r.length : Int) + 1 + 1 + 1 < 3) := by omega
    have hat : ∀ s, atI (D.str s :: D.str b :: (r.map D.str ++ [D.str z])) (-1) = some (D.str z) := fun s => L2.atI_last (D.str s :: D.str b :: r.map D.str) (D.str z)
    have hcut : ∀ s, cutD (D.str s :: D.str b :: (r.map D.str ++ [D.str z])) (some 1) (some (-1)) = D.str b :: r.map D.str := fun s => by
      rw [cutD_eq]; exact cut_mid (D.str s) (D.str z) (D.str b :: r.map D.str)
    have hvs : vsOf [D.str (Str.ofString "less"), D.str (Str.ofString "same"), D.str (Str.ofString "more")] = some [V.str (Str.ofString "less"), V.str (Str.ofString "same"), V.str (Str.ofString "more")] := rfl
    have hlen : r.length + 1 ≤ 16777216 := by simp at hc; omega
    have hci := im_strsF (b :: r) id
    simp at hci
    have hfl : (((b :: r).filter fun y => !figB (tl y) 9).map D.str).length ≤ 16777216 := by
      rw [List.length_map]; exact Nat.le_trans (List.length_filter_le ..) hlen
    have hfi := im_strsF ((b :: r).filter fun y => !figB (tl y) 9) id
    by_cases ha : a = "state"
    · by_cases hz : (wordL.any fun y => y == z) = true
      · have hin : inV (.str z) [V.str (Str.ofString "less"), V.str (Str.ofString "same"), V.str (Str.ofString "more")] = true := (inV_strs wordL).trans hz
        rw [hz, ha]
        cases hF : (b :: r).filter fun y => !figB (tl y) 9 with
        | nil =>
          rw [hF] at e
          simp [ha] at e
          simp [F_is_state_line, m_is_state_line, runP, hw, hs1, hx', ha, hn, hat, hcut, hci, hvs, hin, hlen, e]
        | cons f fs =>
          rw [hF] at e hfl hfi
          simp [ha] at e hfl hfi
          simp [F_is_state_line, m_is_state_line, runP, hw, hs1, hx', ha, hn, hat, hcut, hci, hvs, hin, hlen, e, hfl, hfi]
      · have hin : inV (.str z) [V.str (Str.ofString "less"), V.str (Str.ofString "same"), V.str (Str.ofString "more")] = false := (inV_strs wordL).trans ((Bool.not_eq_true _).mp hz)
        simp [F_is_state_line, m_is_state_line, runP, hw, hs1, hx', ha, hz, hn, hat, hvs, hin]
    · simp [F_is_state_line, m_is_state_line, runP, hw, hs1, hx', ha, hn]
  · have h3' : ((Txt.split x " ").length : Int) < 3 := by omega
    have hw : wordsB (Txt.split x " ") = false := by
      unfold wordsB
      rw [decide_eq_true h3']; rfl
    rw [hw]
    simp [F_is_state_line, m_is_state_line, runP, hs1, h3', hx]
theorem filt_le {α : Type} {l : List α} {p : α → Bool} {n : Nat} (h : l.length ≤ n) : (l.filter p).length ≤ n := Nat.le_trans (List.length_filter_le ..) h
theorem vals_im {l : List D} (h : ∀ d ∈ l, d.val = true) : imAll l = true := imAll_iff.mpr fun d hd => val_im (h d hd)
theorem is_row_eq {d : D} {L n : Nat} (h : d.val = true) (hz : d.szB 100000 = true) (h1 : 1 ≤ L) (h3 : L ≤ 3) : F_is_row [d, .int L, .int n] = some (.bl (isRowD L n d)) := by
  have hcl := columns_eq h1 h3
  have hcz : (colsN L).length ≤ 16777216 := by rcases lcase h1 h3 with rfl | rfl | rfl <;> decide
  cases d with
  | tup xs =>
    have hv := val_tup h
    have hl : xs.length ≤ 100000 := by unfold D.szB at hz; simp at hz; exact hz.1
    have hl2 : xs.length ≤ 16777216 := by omega
    have e := lcL_mapE (g := .tt) (app := app1 3) (ds0 := [some (.tup xs), some (.int L), some (.int n), none]) (tst := tnot (tval (callP F_is_integer (aCons (nm 3) (aCons (cst (.int 0)) (aCons (binE opSub (nm 2) (cst (.int 1))) (aNil))))))) (elt := nm 3) (m := []) xs id (fun d => !intInD 0 ((n : Int) - 1) d) id trivial (fun d hd => ⟨_, rfl, by
      have := is_integer_eq (hv d hd) 0 ((n : Int) - 1)
      simp [this, val_im (hv d hd)], by simp⟩)
    rw [List.map_id, List.map_id] at e
    have hww : wideN L = (colsN L).length := rfl
    by_cases hw : xs.length = wideN L
    · have hw' : xs.length = (colsN L).length := hw
      cases hF : xs.filter fun d => !intInD 0 ((n : Int) - 1) d with
      | nil =>
        rw [hF] at e
        simp [F_is_row, m_is_row, runP, tyK, isTupB, hcl, isRowD, hF, hww, e, hl2, hcz, hw']
      | cons f fs =>
        have hi : imAll (f :: fs) = true := by rw [← hF]; exact vals_im fun d hd => hv d (List.mem_filter.mp hd).1
        have hl3 : (f :: fs).length ≤ 16777216 := by rw [← hF]; exact filt_le hl2
        rw [hF] at e
        simp at hl3
        simp [F_is_row, m_is_row, runP, tyK, isTupB, hcl, isRowD, hF, hww, e, hl2, hcz, hw', hi, hl3]
    · have hw' : ¬ xs.length = (colsN L).length := hw
      have hw2 : ¬ (xs.length : Int) = (colsN L).length := by omega
      simp [F_is_row, m_is_row, runP, tyK, isTupB, hcl, isRowD, hww, hl2, hcz, hw', hw2]
  | _ => first
    | (cases val_tyK h; done)
    | simp [F_is_row, m_is_row, runP, tyK, isTupB, isRowD]
theorem are_verdicts_eq {d : D} {n : Nat} (h : d.val = true) (hz : d.szB 100000 = true) : F_are_verdicts [d, .int n] = some (.bl (isMarksD n d)) := by
  cases d with
  | tup xs =>
    have hv := val_tup h
    have hl : xs.length ≤ 100000 := by unfold D.szB at hz; simp at hz; exact hz.1
    have hl2 : xs.length ≤ 16777216 := by omega
    have e := lcL_mapE (g := .tt) (app := app1 2) (ds0 := [some (.tup xs), some (.int n), none]) (tst := tnot (tval (callP F_is_integer (aCons (nm 2) (aCons (cst (.int (-1))) (aCons (cst (.int 1)) aNil)))))) (elt := nm 2) (m := []) xs id (fun d => !intInD (-1) 1 d) id trivial (fun d hd => ⟨_, rfl, by
      have := is_integer_eq (hv d hd) (-1) 1
      simp [this, val_im (hv d hd)], by simp⟩)
    rw [List.map_id, List.map_id] at e
    by_cases hw : xs.length = n
    · subst hw
      cases hF : xs.filter fun d => !intInD (-1) 1 d with
      | nil =>
        rw [hF] at e
        simp [F_are_verdicts, m_are_verdicts, runP, tyK, isTupB, isMarksD, hF, e, hl2]
      | cons f fs =>
        have hi : imAll (f :: fs) = true := by rw [← hF]; exact vals_im fun d hd => hv d (List.mem_filter.mp hd).1
        have hl3 : (f :: fs).length ≤ 16777216 := by rw [← hF]; exact filt_le hl2
        rw [hF] at e
        simp at hl3
        simp [F_are_verdicts, m_are_verdicts, runP, tyK, isTupB, isMarksD, hF, e, hl2, hi, hl3]
    · have hw2 : ¬ (xs.length : Int) = n := by omega
      simp [F_are_verdicts, m_are_verdicts, runP, tyK, isTupB, isMarksD, hl2, hw2, hw]
  | _ => first
    | (cases val_tyK h; done)
    | simp [F_are_verdicts, m_are_verdicts, runP, tyK, isTupB, isMarksD]
theorem szT {xs : List D} (h : (D.tup xs).szB 100000 = true) : xs.length ≤ 100000 ∧ ∀ d ∈ xs, d.szB 100000 = true := by
  unfold D.szB at h
  simp at h
  exact ⟨h.1, szAll_iff.mp h.2⟩
theorem lett {l : D} (h : intInD 1 3 l = true) : ∃ L : Nat, l = .int L ∧ 1 ≤ L ∧ L ≤ 3 := by
  cases l with
  | int i =>
    simp [intInD] at h
    exact ⟨i.toNat, by congr; omega, by omega, by omega⟩
  | _ => cases h
theorem mem_enum {rs : List D} {d : D} (h : d ∈ enumD rs) : ∃ (i : Nat) (r : D), rs[i]? = some r ∧ r ∈ rs ∧ d = .tup [.int i, r] := by
  obtain ⟨j, hj, e⟩ := List.getElem_of_mem h
  have e2 : (enumD rs)[j]? = some d := by rw [List.getElem?_eq_getElem hj, e]
  unfold enumD at e2
  rw [List.getElem?_zipWith] at e2
  have hl : j < rs.length := by unfold enumD at hj; simp at hj; exact hj
  rw [List.getElem?_range hl, List.getElem?_eq_getElem hl] at e2
  cases e2
  exact ⟨j, _, List.getElem?_eq_getElem hl, List.getElem_mem hl, rfl⟩
theorem enum_at (rs : List D) (k : Nat) : (enumD rs)[k]? = rs[k]?.map fun r => D.tup [.int k, r] := by
  unfold enumD
  rw [List.getElem?_zipWith]
  by_cases h : k < rs.length
  · rw [List.getElem?_range h, List.getElem?_eq_getElem h]; rfl
  · rw [List.getElem?_eq_none (by simpa using h), List.getElem?_eq_none (l := rs) (by omega)]; rfl
def rowBad (L n : Nat) : D → Bool
  | .tup [_, r] => !isRowD L n r
  | _ => false
theorem enum_some {L : Nat} (rs : List D) {k : Nat} (h : (rs.findIdx? fun r => !isRowD L rs.length r) = some k) : ∃ r, (enumD rs).find? (rowBad L rs.length) = some (.tup [.int k, r]) ∧ rs[k]? = some r := by
  obtain ⟨hk, h1, h2⟩ := List.findIdx?_eq_some_iff_getElem.mp h
  refine ⟨rs[k], ?_, List.getElem?_eq_getElem hk⟩
  have hz : (enumD rs).length = rs.length := by unfold enumD; simp
  rw [List.find?_eq_some_iff_getElem]
  refine ⟨h1, k, by omega, ?_, fun j hj => ?_⟩
  · have := enum_at rs k
    rw [List.getElem?_eq_getElem (by omega), List.getElem?_eq_getElem hk] at this
    exact Option.some.inj this
  · have := enum_at rs j
    rw [List.getElem?_eq_getElem (by omega), List.getElem?_eq_getElem (l := rs) (by omega)] at this
    rw [Option.some.inj this]
    have := h2 j hj
    simpa [rowBad] using this
theorem enum_none {L : Nat} (rs : List D) (h : (rs.findIdx? fun r => !isRowD L rs.length r) = none) : (enumD rs).find? (rowBad L rs.length) = none := by
  rw [List.find?_eq_none]
  intro d hd
  obtain ⟨i, r, hi, hr, rfl⟩ := mem_enum hd
  have := List.findIdx?_eq_none_iff.mp h r hr
  show ¬ (!isRowD L rs.length r) = true
  rw [this]; decide
theorem comp_error_eq {d : D} (h : d.val = true) (hz : d.szB 100000 = true) : F_comp_error [d] = some (errD d) := by
  cases d with
  | tup xs =>
    have hl := (szT hz).1
    have hl2 : xs.length ≤ 16777216 := by omega
    match xs, hl2 with
    | [l, r, m], _ =>
      have hv := val_tup h
      have hs := (szT hz).2
      have hvl := hv l (by simp)
      have hvr := hv r (by simp)
      have hvm := hv m (by simp)
      have hsr := hs r (by simp)
      have hsm := hs m (by simp)
      have il := val_im hvl
      have ir := val_im hvr
      have imm := val_im hvm
      have e1 := is_integer_eq hvl 1 3
      by_cases hL : intInD 1 3 l = true
      · obtain ⟨L, rfl, h1, h3⟩ := lett hL
        by_cases hr : ∃ rs, r = .tup rs ∧ rs ≠ []
        · obtain ⟨rs, rfl, hne⟩ := hr
          have hrl := (szT hsr).1
          have hrl2 : rs.length ≤ 16777216 := by omega
          have hrv := val_tup hvr
          rw [err_in hL hne]
          have ef := forL_find (g := .tt) (tg := gTup 2 (gCons (gNm 4) (gCons (gNm 5) gNil))) (body := m_comp_error_L1) (k := [4, 5]) (gc := true) (n := 0) (ds := [some (.tup [.int L, .tup rs, m]), some (.int L), some (.tup rs), some m, none, none]) (m := []) (rowBad L rs.length) (fun d => match d with | .tup [i, _] => badD i "row" | _ => .non) trivial (enumD rs) (fun d hd => by
            obtain ⟨i, r, hi, hr, rfl⟩ := mem_enum hd
            have e2 := is_row_eq (n := rs.length) (hrv r hr) ((szT hsr).2 r hr) h1 h3
            have ir := val_im (hrv r hr)
            constructor
            · intro hp
              simp [rowBad] at hp
              simp [turn, m_comp_error_L1, e2, hp, hrl2, ir, badD]
            · intro hp
              simp [rowBad] at hp
              exact ⟨[some (.tup [.int L, .tup rs, m]), some (.int L), some (.tup rs), some m, some (.int i), some r], [], by simp [turn, m_comp_error_L1, e2, hp, hrl2, ir], by simp [turnEnd]⟩)
          have ev := are_verdicts_eq (n := rs.length) hvm hsm
          unfold errR
          cases hF : rs.findIdx? fun r => !isRowD L rs.length r with
          | some k =>
            obtain ⟨r, hf, hk⟩ := enum_some rs hF
            rw [hf] at ef
            simp [F_comp_error, m_comp_error, runP, tyK, isTupB, e1, hL, il, ir, imm, hrl2, hne, ef, badD]
          | none =>
            rw [enum_none rs hF] at ef
            cases hM : isMarksD rs.length m <;> simp [F_comp_error, m_comp_error, runP, tyK, isTupB, e1, hL, il, ir, imm, hrl2, hne, ef, ev, hM, badD]
        · rw [err_rows hL fun rs e => Classical.byContradiction fun c => hr ⟨rs, e, c⟩]
          cases r with
          | tup rs =>
            have : rs = [] := Classical.byContradiction fun c => hr ⟨rs, rfl, c⟩
            subst this
            simp [F_comp_error, m_comp_error, runP, tyK, isTupB, e1, hL, il, ir, imm, badD]
          | _ => first
            | (cases val_tyK hvr; done)
            | simp [F_comp_error, m_comp_error, runP, tyK, isTupB, e1, hL, il, ir, imm, badD]
      · simp at hL
        rw [err_letters hL]
        simp [F_comp_error, m_comp_error, runP, tyK, isTupB, e1, hL, il, ir, imm, badD]
    | [], hl2 => rw [err_comp (by simp)]; simp [F_comp_error, m_comp_error, runP, tyK, isTupB, badD]
    | [a], hl2 => rw [err_comp (by simp)]; simp [F_comp_error, m_comp_error, runP, tyK, isTupB, badD]
    | [a, b], hl2 => rw [err_comp (by simp)]; simp [F_comp_error, m_comp_error, runP, tyK, isTupB, badD]
    | a :: b :: c :: e :: r, hl2 =>
      have h4 : ¬ ((r.length : Int) + 1 + 1 + 1 + 1 = 3) := by omega
      have h5 : r.length + 1 + 1 + 1 + 1 ≤ 16777216 := by simpa using hl2
      rw [err_comp (by simp)]; simp [F_comp_error, m_comp_error, runP, tyK, isTupB, badD, h4, h5]
  | _ => first
    | (cases val_tyK h; done)
    | (rw [err_comp (by simp)]; simp [F_comp_error, m_comp_error, runP, tyK, isTupB, badD])
theorem heads_vs : vsOf [D.str (Str.ofString "letters a"), D.str (Str.ofString "letters ab"), D.str (Str.ofString "letters abc")] = some [V.str (Str.ofString "letters a"), V.str (Str.ofString "letters ab"), V.str (Str.ofString "letters abc")] := by simp [vsOf]
theorem heads_in (x : Str) : inV (.str x) [V.str (Str.ofString "letters a"), V.str (Str.ofString "letters ab"), V.str (Str.ofString "letters abc")] = (headL.any fun z => z == x) := by
  rw [← inV_strs]; simp [headL]
theorem mem_enumS {ys : List Str} {d : D} (h : d ∈ enumD (ys.map D.str)) : ∃ (i : Nat) (y : Str), ys[i]? = some y ∧ d = .tup [.int i, .str y] := by
  obtain ⟨i, r, h1, h2, rfl⟩ := mem_enum h
  rw [List.getElem?_map] at h1
  obtain ⟨y, hy, rfl⟩ := Option.map_eq_some_iff.mp h1
  exact ⟨i, y, hy, rfl⟩
theorem rowD_val (r : List Nat) : (rowD r).val = true := by
  show valAll _ = true
  exact valAll_iff.mpr fun e he => by obtain ⟨n, _, rfl⟩ := List.mem_map.mp he; rfl
theorem cw_val (j : Nat) (ls : List Str) : (compOfW j ls).val = true := by
  have h1 : valAll (ls.map fun l => rowD (rowOfW (wordsOf l))) = true := valAll_iff.mpr fun d hd => by
    obtain ⟨r, _, rfl⟩ := List.mem_map.mp hd
    exact rowD_val _
  have h2 : valAll (ls.map fun l => D.int (markOfW (wordsOf l))) = true := valAll_iff.mpr fun d hd => by obtain ⟨n, _, rfl⟩ := List.mem_map.mp hd; rfl
  show (D.val (.int ((j : Int) + 1)) && (valAll _ && (valAll _ && true))) = true
  rw [h1, h2]; rfl
theorem row_le (ws : List Str) : (rowOfW ws).length ≤ ws.length := by
  unfold rowOfW
  rw [List.length_map]
  exact cutN_le _ _ _
theorem cw_sz {j : Nat} {ls : List Str} (h : ls.length ≤ 100000) (hl : ∀ l ∈ ls, l.length ≤ 99000) : (compOfW j ls).szB 100000 = true := by
  have h1 : szAll 100000 (ls.map fun l => rowD (rowOfW (wordsOf l))) = true := szAll_iff.mpr fun d hd => by
    obtain ⟨l, hm, rfl⟩ := List.mem_map.mp hd
    have h1 := row_le (wordsOf l)
    have h2 : (wordsOf l).length ≤ l.length + 1 := split_count l " "
    have h3 := hl l hm
    show (decide (((rowOfW (wordsOf l)).map fun n => D.int (n : Nat)).length ≤ 100000) && szAll _ _) = true
    rw [List.length_map, decide_eq_true (by omega), szAll_iff.mpr fun e he => by obtain ⟨n, _, rfl⟩ := List.mem_map.mp he; rfl]; rfl
  have h2 : szAll 100000 (ls.map fun l => D.int (markOfW (wordsOf l))) = true := szAll_iff.mpr fun d hd => by obtain ⟨n, _, rfl⟩ := List.mem_map.mp hd; rfl
  show (decide (3 ≤ 100000) && (D.szB 100000 (.int ((j : Int) + 1)) && ((decide ((ls.map fun l => rowD (rowOfW (wordsOf l))).length ≤ 100000) && szAll _ _) && ((decide ((ls.map fun l => D.int (markOfW (wordsOf l))).length ≤ 100000) && szAll _ _) && true)))) = true
  rw [h1, h2, List.length_map, List.length_map, decide_eq_true h]; rfl
theorem err_im {d : D} (h : d.val = true) : (errD d).im = true := errP_im _ _ ⟨d, h, rfl, rfl⟩
theorem heads_idx {x : Str} {j : Nat} (h : (headL.findIdx? fun z => decide (z = x)) = some j) : idxS x ["letters a", "letters ab", "letters abc"] = some j ∧ (headL.any fun z => z == x) = true := by
  refine ⟨h, ?_⟩
  obtain ⟨hj, h1, _⟩ := List.findIdx?_eq_some_iff_getElem.mp h
  exact List.any_eq_true.mpr ⟨_, List.getElem_mem hj, by rw [of_decide_eq_true h1]; exact beq_self_eq_true _⟩
theorem heads_no {x : Str} (h : (headL.findIdx? fun z => decide (z = x)) = none) : (headL.any fun z => z == x) = false := by
  rw [List.any_eq_false]
  intro z hz e
  have := List.findIdx?_eq_none_iff.mp h z hz
  rw [decide_eq_false_iff_not] at this
  exact this (eq_of_beq e)
theorem words_three {ws : List Str} (h : wordsB ws = true) : ∃ b r z, ws = ("state" : Str) :: (b :: r ++ [z]) ∧ (wordL.any fun y => y == z) = true ∧ ∀ w ∈ b :: r, figB (tl w) 9 = true := by
  have h3 : ¬ ((ws.length : Int) < 3) := fun c => by
    unfold wordsB at h
    rw [decide_eq_true c] at h
    simp at h
  obtain ⟨a, b, r, z, rfl⟩ := three h3
  rw [wordsB_mk] at h
  simp only [Bool.and_eq_true, decide_eq_true_eq, List.isEmpty_iff, List.filter_eq_nil_iff] at h
  obtain ⟨⟨rfl, h2⟩, h4⟩ := h
  exact ⟨b, r, z, rfl, h2, fun w hw => by simpa using h4 w hw⟩
theorem word_idx {z : Str} (h : (wordL.any fun y => y == z) = true) : ∃ k, idxS z ["less", "same", "more"] = some k ∧ (wordL.findIdx? fun y => decide (y = z)) = some k := by
  obtain ⟨y, hy, e⟩ := List.any_eq_true.mp h
  cases hf : wordL.findIdx? fun y => decide (y = z) with
  | none =>
    have := List.findIdx?_eq_none_iff.mp hf y hy
    rw [decide_eq_false_iff_not] at this
    exact absurd (eq_of_beq e) this
  | some k => exact ⟨k, hf, rfl⟩
theorem getLastD_app {α : Type} (a : α) (l : List α) (z d : α) : (a :: (l ++ [z])).getLastD d = z := by
  show ((a :: l) ++ [z]).getLastD d = z
  rw [List.getLastD_eq_getLast?, List.getLast?_concat]; rfl
theorem wrong_some {ls : List Str} {i : Nat} (h : wrongL ls = some i) : ∃ l, ls[i]? = some l ∧ wordsB (wordsOf l) = false ∧ ∀ j y, j < i → ls[j]? = some y → wordsB (wordsOf y) = true := by
  obtain ⟨hi, h1, h2⟩ := List.findIdx?_eq_some_iff_getElem.mp h
  refine ⟨ls[i], List.getElem?_eq_getElem hi, by simpa using h1, fun j y hj e => ?_⟩
  obtain ⟨hjl, rfl⟩ := List.getElem?_eq_some_iff.mp e
  simpa using h2 j hj
theorem wrong_none {ls : List Str} (h : wrongL ls = none) : ∀ l ∈ ls, wordsB (wordsOf l) = true := fun l hl => by
  have := List.findIdx?_eq_none_iff.mp h l hl
  simpa using this
theorem line_state {l : Str} (hl : l.length ≤ 16777000) : F_is_state_line [.str l] = some (.bl (wordsB (wordsOf l))) := is_state_line_eq (by omega)
theorem parse_gen {x : Str} (hx : x.length ≤ 90000) : F_parse_comp [.str x] = parseG x := by
  have hs1 : (("\n" : Str).length == 0) = false := by decide +kernel
  have hs2 : ((" " : Str).length == 0) = false := by decide +kernel
  have hx2 : x.length ≤ 16777214 := by omega
  have hvs := heads_vs
  obtain ⟨h0, ls, hsp⟩ := split_cons (x := x) (y := "\n")
  have hcnt := split_count x "\n"
  rw [hsp, List.length_cons] at hcnt
  have hll : ∀ l ∈ ls, l.length ≤ 90000 := fun l hl => Nat.le_trans (split_len (x := x) (y := "\n") (by rw [hsp]; exact List.mem_cons_of_mem _ hl)) hx
  have hin0 := heads_in h0
  have hPG : parseG x = match headL.findIdx? fun z => decide (z = h0) with
    | none => xBadText 0
    | some j => match wrongL ls with
      | some i => xBadText (i + 1)
      | none => if ls = [] then xBadText 1 else if errD (compOfW j ls) = .non then .val (compOfW j ls) else .exc ⟨"BadComp", [("error", errD (compOfW j ls))]⟩ := by unfold parseG; rw [hsp]; try rfl
  rw [hPG]
  clear hPG
  cases hj : headL.findIdx? fun z => decide (z = h0) with
  | none =>
    rw [heads_no hj] at hin0
    simp [F_parse_comp, m_parse_comp, runX, tyK, isStrB, hs1, hx2, hsp, hvs, hin0, xBadText, Xd.im]
  | some j =>
    obtain ⟨hix, hin⟩ := heads_idx hj
    rw [hin] at hin0
    cases hw : wrongL ls with
    | some i =>
      obtain ⟨l, hi, hb, hp⟩ := wrong_some hw
      obtain ⟨ds2, m2, e⟩ := forL_ex (g := .tt) (tg := gTup 2 (gCons (gNm 2) (gCons (gNm 3) gNil))) (body := m_parse_comp_L1) (k := [2]) (gc := true) (n := 0) (x := ⟨"BadText", [("line", .int (i + 1 : Nat))]⟩) (fun ds m => (∃ sl, ds = [some (.str x), some (.rol (D.str h0 :: ls.map D.str)), none, sl, none, none, none, none, none, none]) ∧ m = []) (fun _ _ _ => trivial) (enumD (D.str h0 :: ls.map D.str)) (i + 1) (.tup [.int (i + 1 : Nat), .str l]) [some (.str x), some (.rol (D.str h0 :: ls.map D.str)), none, none, none, none, none, none, none, none] []
        (by rw [enumD_get, List.getElem?_cons_succ, List.getElem?_map, hi]; rfl) ⟨⟨_, rfl⟩, rfl⟩ (fun k d' hk hd ds m hI => by
          obtain ⟨⟨sl, rfl⟩, rfl⟩ := hI
          rw [enumD_get] at hd
          obtain ⟨y, hy, rfl⟩ := Option.map_eq_some_iff.mp hd
          cases k with
          | zero =>
            cases hy
            exact ⟨[some (.str x), some (.rol (D.str h0 :: ls.map D.str)), some (.int 0), some (.str h0), none, none, none, none, none, none], [], by simp [turn, m_parse_comp_L1], by simp [turnEnd]⟩
          | succ k =>
            rw [List.getElem?_cons_succ, List.getElem?_map] at hy
            obtain ⟨y, hy2, rfl⟩ := Option.map_eq_some_iff.mp hy
            have e1 := line_state (l := y) (by have := hll y (List.mem_of_getElem? hy2); omega)
            rw [hp k y (by omega) hy2] at e1
            exact ⟨[some (.str x), some (.rol (D.str h0 :: ls.map D.str)), some (.int (k + 1 : Nat)), some (.str y), none, none, none, none, none, none], [], by simp [turn, m_parse_comp_L1, e1], by simp [turnEnd]⟩)
        (fun ds m hI => by
          obtain ⟨⟨sl, rfl⟩, rfl⟩ := hI
          have e1 := line_state (l := l) (by have := hll l (List.mem_of_getElem? hi); omega)
          rw [hb] at e1
          exact ⟨[some (.str x), some (.rol (D.str h0 :: ls.map D.str)), some (.int (i + 1 : Nat)), some (.str l), none, none, none, none, none, none], [], by simp [turn, m_parse_comp_L1, e1]⟩)
      simp [F_parse_comp, m_parse_comp, runX, tyK, isStrB, hs1, hx2, hsp, hvs, hin0, e, xBadText, Xd.im]
    | none =>
      have hW := wrong_none hw
      obtain ⟨ds2, m2, ef, ⟨sl, rfl⟩, rfl⟩ := forL_go (g := .tt) (tg := gTup 2 (gCons (gNm 2) (gCons (gNm 3) gNil))) (body := m_parse_comp_L1) (k := [2]) (gc := true) (n := 0) (fun ds m => (∃ sl, ds = [some (.str x), some (.rol (D.str h0 :: ls.map D.str)), none, sl, none, none, none, none, none, none]) ∧ m = []) (fun _ _ _ => trivial) (enumD (D.str h0 :: ls.map D.str)) [some (.str x), some (.rol (D.str h0 :: ls.map D.str)), none, none, none, none, none, none, none, none] [] ⟨⟨_, rfl⟩, rfl⟩ (fun d hd ds m hI => by
          obtain ⟨⟨sl, rfl⟩, rfl⟩ := hI
          obtain ⟨k, y, hy, rfl⟩ := mem_enumD hd
          cases k with
          | zero =>
            cases hy
            exact ⟨[some (.str x), some (.rol (D.str h0 :: ls.map D.str)), some (.int 0), some (.str h0), none, none, none, none, none, none], [], by simp [turn, m_parse_comp_L1], by simp [turnEnd]⟩
          | succ k =>
            rw [List.getElem?_cons_succ, List.getElem?_map] at hy
            obtain ⟨y, hy2, rfl⟩ := Option.map_eq_some_iff.mp hy
            have hm := List.mem_of_getElem? hy2
            have e1 := line_state (l := y) (by have := hll y hm; omega)
            rw [hW y hm] at e1
            exact ⟨[some (.str x), some (.rol (D.str h0 :: ls.map D.str)), some (.int (k + 1 : Nat)), some (.str y), none, none, none, none, none, none], [], by simp [turn, m_parse_comp_L1, e1], by simp [turnEnd]⟩)
      by_cases hne : ls = []
      · subst hne
        simp at ef
        simp [F_parse_comp, m_parse_comp, runX, tyK, isStrB, hs1, hx2, hsp, hvs, hin0, ef, xBadText, Xd.im]
      · have hllb : ls.length + 1 ≤ 16777216 := by omega
        have hzb : ls.length ≤ 16777216 := by omega
        have hzi : ¬ ((ls.length : Int) + 1 = 1) := by have := List.length_pos_iff.mpr hne; omega
        have hc1 : VL.cutD (D.str h0 :: ls.map D.str) (some 1) none = ls.map D.str := by
          rw [← List.map_cons, cutD_map]; simp [cutN, HT.sIx]
        have e4 := lcL_all (g := .tt) (app := app1 3) (ds0 := [some (.str x), some (.rol (D.str h0 :: ls.map D.str)), none, none, none, none, none, none, none, none]) (elt := splR (nm 3) (cst (.str " "))) (m := []) ls D.str (fun l => .rol ((wordsOf l).map D.str)) trivial (fun l hl => ⟨_, rfl, by
          have := hll l hl
          have hl2 : l.length ≤ 16777214 := by omega
          simp [hs2, hl2, wordsOf]⟩)
        have hi4 : imAll (ls.map fun l => D.rol ((wordsOf l).map D.str)) = true := imAll_map fun l _ => by simp [D.im]
        have e5 := lcL_all (g := .tt) (app := app1 7) (ds0 := [some (.str x), some (.rol (D.str h0 :: ls.map D.str)), none, sl, some (.rol (ls.map fun l => .rol ((wordsOf l).map D.str))), none, none, none, none, none]) (elt := bltE bTup (aCons (lcR [6] (app1 6) (iVal (slR (nm 7) (aP (cst (.int 1))) (aP (cst (.int (-1)))))) yesT (bltE bInt (aCons (nm 6) aNil))) aNil)) (m := []) ls (fun l => .rol ((wordsOf l).map D.str)) (fun l => rowD (rowOfW (wordsOf l))) trivial (fun l hl => ⟨_, rfl, by
          obtain ⟨b, r, z, hws, _, hfig⟩ := words_three (hW l hl)
          have hlen : (wordsOf l).length ≤ 90001 := Nat.le_trans (split_count l " ") (by have := hll l hl; omega)
          have hc : cutN (wordsOf l) (some 1) (some (-1)) = b :: r := by rw [hws]; exact cut_mid _ _ _
          have hcl := cutN_le (wordsOf l) (some 1) (some (-1))
          have hcb : (cutN (wordsOf l) (some 1) (some (-1))).length ≤ 16777216 := by omega
          have e := lcL_all (g := .tt) (app := app1 6) (ds0 := [some (.str x), some (.rol (D.str h0 :: ls.map D.str)), none, sl, some (.rol (ls.map fun l => .rol ((wordsOf l).map D.str))), none, none, some (.rol ((wordsOf l).map D.str)), none, none]) (elt := bltE bInt (aCons (nm 6) aNil)) (m := []) (cutN (wordsOf l) (some 1) (some (-1))) D.str (fun w => D.int (numV w : Nat)) trivial (fun w hw => ⟨_, rfl, by
            obtain ⟨f1, f2, f3⟩ := fig_num (hfig w (by rw [← hc]; exact hw))
            simp [f1, f3]⟩)
          have hci := imAll_map (f := D.str) (l := cutN (wordsOf l) (some 1) (some (-1))) fun _ _ => rfl
          have hci2 := imAll_map (f := fun w => D.int (numV w : Nat)) (l := cutN (wordsOf l) (some 1) (some (-1))) fun _ _ => rfl
          simp [cutD_map, e, rowD, rowOfW, hci, hci2, hcb]⟩)
        have hi5 : imAll (ls.map fun l => rowD (rowOfW (wordsOf l))) = true := imAll_map fun l _ => im_row _
        have e6 := lcL_all (g := .tt) (app := app1 7) (ds0 := [some (.str x), some (.rol (D.str h0 :: ls.map D.str)), none, sl, some (.rol (ls.map fun l => .rol ((wordsOf l).map D.str))), some (.tup (ls.map fun l => rowD (rowOfW (wordsOf l)))), none, none, none, none]) (elt := binE opSub (tixE ["less", "same", "more"] (ixE (nm 7) (cst (.int (-1))))) (cst (.int 1))) (m := []) ls (fun l => .rol ((wordsOf l).map D.str)) (fun l => .int (markOfW (wordsOf l))) trivial (fun l hl => ⟨_, rfl, by
          obtain ⟨b, r, z, hws, hz, _⟩ := words_three (hW l hl)
          obtain ⟨k, k1, k2⟩ := word_idx hz
          have hat : atI ((wordsOf l).map D.str) (-1) = some (D.str z) := by
            rw [hws, List.map_cons, List.map_append]; exact L2.atI_last (D.str "state" :: (b :: r).map D.str) (D.str z)
          have hm : markOfW (wordsOf l) = (k : Int) - 1 := by
            unfold markOfW
            rw [hws, getLastD_app, k2]; rfl
          simp [hat, k1, hm]⟩)
        have hi6 : imAll (ls.map fun l => D.int (markOfW (wordsOf l))) = true := imAll_map fun p _ => rfl
        have he := comp_error_eq (cw_val j ls) (cw_sz (j := j) (ls := ls) (by omega) fun l hl => by have := hll l hl; omega)
        have hEi := err_im (cw_val j ls)
        have hcw : compOfW j ls = .tup [.int ((j : Int) + 1), .tup (ls.map fun l => rowD (rowOfW (wordsOf l))), .tup (ls.map fun l => .int (markOfW (wordsOf l)))] := rfl
        show F_parse_comp [D.str x] = if ls = [] then xBadText 1 else if errD (compOfW j ls) = .non then .val (compOfW j ls) else .exc ⟨"BadComp", [("error", errD (compOfW j ls))]⟩
        rw [if_neg hne]
        rw [hcw] at he hEi ⊢
        by_cases hE : errD (.tup [.int ((j : Int) + 1), .tup (ls.map fun l => rowD (rowOfW (wordsOf l))), .tup (ls.map fun l => .int (markOfW (wordsOf l)))]) = .non
        · rw [hE] at he ⊢
          simp [F_parse_comp, m_parse_comp, runX, tyK, isStrB, hs1, hx2, hsp, hvs, hin0, ef, hne, hllb, hzi, hc1, hzb, e4, hi4, e5, hi5, e6, hi6, he, hix, isNonD]
        · obtain ⟨E, hEd⟩ : ∃ E, E = errD (.tup [.int ((j : Int) + 1), .tup (ls.map fun l => rowD (rowOfW (wordsOf l))), .tup (ls.map fun l => .int (markOfW (wordsOf l)))]) := ⟨_, rfl⟩
          rw [← hEd] at he hE hEi ⊢
          have hnn : isNonD E = false := by cases E <;> first | rfl | exact absurd rfl hE
          simp [F_parse_comp, m_parse_comp, runX, tyK, isStrB, hs1, hx2, hsp, hvs, hin0, ef, hne, hllb, hzi, hc1, hzb, e4, hi4, e5, hi5, e6, hi6, he, hix, hnn, hE, Xd.im, hEi]
/-- what a reading comes to, as the law says it -/
def outL : XO → List D
  | .val d => [.str "ok", d]
  | .exc x => match x.fs with
    | [(_, d)] => [.str (if x.cls = "BadText" then "line" else "comp"), d]
    | _ => []
  | .bad => []
theorem law_parsed_eq {x : Str} (hx : x.length ≤ 90000) : F__law_parsed [.str x] = some (outL (parseG x)) := by
  have e := parse_gen hx
  cases hp : parseG x with
  | val d =>
    rw [hp] at e
    have hi := runX_val e
    simp [F__law_parsed, m__law_parsed, m__law_parsed_b, h__law_parsed, runL, tryS, tryR, e, outL, hi]
  | exc z =>
    rw [hp] at e
    have hi := runX_exc e
    unfold parseG at hp
    split at hp
    · cases hp
    · split at hp
      · cases hp
        simp [F__law_parsed, m__law_parsed, m__law_parsed_b, h__law_parsed, runL, tryS, tryR, tryC, tryH, e, outL, List.lookup]
      · split at hp
        · cases hp
          simp [F__law_parsed, m__law_parsed, m__law_parsed_b, h__law_parsed, runL, tryS, tryR, tryC, tryH, e, outL, List.lookup]
        · split at hp
          · cases hp
            simp [F__law_parsed, m__law_parsed, m__law_parsed_b, h__law_parsed, runL, tryS, tryR, tryC, tryH, e, outL, List.lookup]
          · split at hp
            · cases hp
            · cases hp
              have hi2 := hi
              simp [Xd.im] at hi2
              have hne : ¬ (Str.ofString "BadComp" = Str.ofString "BadText") := by decide +kernel
              simp [F__law_parsed, m__law_parsed, m__law_parsed_b, h__law_parsed, runL, tryS, tryR, tryC, tryH, e, outL, List.lookup, hi2, hne]
  | bad =>
    exfalso
    unfold parseG at hp
    obtain ⟨h0, ls, hsp⟩ := split_cons (x := x) (y := "\n")
    rw [hsp] at hp
    simp only at hp
    split at hp
    · cases hp
    · split at hp
      · cases hp
      · split at hp
        · cases hp
        · split at hp <;> cases hp
theorem law_deck_eq {ns : List Int} (h : ns.length ≤ 63) : F__law_deck [.rol (ns.map D.int)] [] = .ok (.obj 1) (dkS (ns.map fun i => ((i.natAbs : Nat) : Int), 0)) := by
  have hb : ns.length ≤ 16777216 := by omega
  have hc : cutD (ns.map D.int) none (some 63) = ns.map D.int := by
    rw [VL.cutD_eq]; simp [cutN, HT.sIx]; exact List.take_of_length_le (by simp; omega)
  have e := lcL_all (g := .tt) (app := app1 1) (ds0 := [some (.rol (ns.map D.int)), none]) (elt := bltE bAbs (aCons (nm 1) aNil)) (m := []) ns D.int (fun i => D.int ((i.natAbs : Nat) : Int)) trivial (fun i hi => ⟨_, rfl, by
    have : (if i < 0 then -i else i) = ((i.natAbs : Nat) : Int) := by split <;> omega
    simp [this]⟩)
  have hi := imAll_map (f := D.int) (l := ns) fun _ _ => rfl
  simp [F__law_deck, m__law_deck, runA, hc, hb, e, hi]
  simp [dkS, dk]
/-! ## what a reading comes to may be shown -/
theorem row_cost {l : Str} (h : wordsB (wordsOf l) = true) : 2 * (rowOfW (wordsOf l)).length + 7 ≤ l.length + 1 := by
  obtain ⟨b, r, z, hws, _, hfig⟩ := words_three h
  have hc := cost_split (x := l) (y := " ") sp1 (by decide +kernel)
  have hw : Txt.split l " " = wordsOf l := rfl
  have hcut : cutN (wordsOf l) (some 1) (some (-1)) = b :: r := by rw [hws]; exact cut_mid _ _ _
  have hr : (rowOfW (wordsOf l)).length = (b :: r).length := by unfold rowOfW; rw [List.length_map, hcut]
  have h2 : 2 * (b :: r).length ≤ costS (b :: r) := by
    generalize b :: r = w at hfig
    induction w with
    | nil => exact Nat.le_refl _
    | cons x w ih =>
      have h1 := (fig_parts (hfig x List.mem_cons_self)).1
      have h2 := ih fun y hy => hfig y (List.mem_cons_of_mem _ hy)
      rw [List.length_cons, cost_cons]; omega
  have h5 : (Str.ofString "state").length = 5 := by decide +kernel
  simp only [hw, hws, cost_cons, cost_app, cost_nil, h5] at hc
  rw [cost_cons] at h2
  rw [hr]
  omega
theorem row_sh {l : Str} (h : wordsB (wordsOf l) = true) : Sh (rowD (rowOfW (wordsOf l))) 1 (41 * (rowOfW (wordsOf l)).length) := by
  obtain ⟨b, r, z, hws, _, hfig⟩ := words_three h
  have hcut : cutN (wordsOf l) (some 1) (some (-1)) = b :: r := by rw [hws]; exact cut_mid _ _ _
  have := Sh.tup (ds := (rowOfW (wordsOf l)).map fun n => D.int (n : Nat)) (k := 0) (w := 40) fun d hd => by
    obtain ⟨n, hn, rfl⟩ := List.mem_map.mp hd
    unfold rowOfW at hn
    rw [hcut] at hn
    obtain ⟨w, hw, rfl⟩ := List.mem_map.mp hn
    have := (fig_num (hfig w hw)).2.1
    exact Sh.int (by omega) (by omega)
  rw [List.length_map] at this
  exact this.mono (Nat.le_refl _) (by omega)
theorem mark_le (ws : List Str) : -1 ≤ markOfW ws ∧ markOfW ws ≤ 2 := by
  unfold markOfW
  cases h : wordL.findIdx? fun z => decide (z = ws.getLastD "") with
  | none => decide
  | some k =>
    have : k < 3 := (List.findIdx?_eq_some_iff_getElem.mp h).1
    show -1 ≤ ((k : Nat) : Int) - 1 ∧ ((k : Nat) : Int) - 1 ≤ 2
    omega
theorem sum_lines (ls : List Str) : (ls.map fun l => l.length + 1).sum = costS ls := rfl
theorem sum_addc {α : Type} (f : α → Nat) (c : Nat) (l : List α) : (l.map fun a => f a + c).sum = (l.map f).sum + c * l.length := by
  induction l with
  | nil => rfl
  | cons a l ih => rw [List.map_cons, List.sum_cons, List.map_cons, List.sum_cons, ih, List.length_cons, Nat.mul_succ]; omega
theorem cw_sh {j : Nat} {ls : List Str} (hj : j < 3) (h : ∀ l ∈ ls, wordsB (wordsOf l) = true) : Sh (compOfW j ls) 3 (143 + 21 * costS ls) := by
  have h1 := sh_tupM (xs := ls) (g := fun l => rowD (rowOfW (wordsOf l))) (k := 1) (fun l => 41 * (rowOfW (wordsOf l)).length) fun l hl => row_sh (h l hl)
  have h2 := Sh.tup (ds := ls.map fun l => D.int (markOfW (wordsOf l))) (k := 0) (w := 40) fun d hd => by
    obtain ⟨l, _, rfl⟩ := List.mem_map.mp hd
    have := mark_le (wordsOf l)
    exact Sh.int (by omega) (by omega)
  have h3 : (ls.map fun l => 41 * (rowOfW (wordsOf l)).length + 1).sum + 41 * ls.length ≤ 21 * costS ls := by
    rw [← sum_lines, ← sum_addc]
    refine sum_mul_le fun l hl => ?_
    have := row_cost (h l hl)
    omega
  rw [List.length_map] at h2
  have h4 := cost_len ls
  have h0 : Sh (.int ((j : Int) + 1)) 2 40 := Sh.int (by omega) (by omega)
  have := sh_tupS (ds := [.int ((j : Int) + 1), .tup (ls.map fun l => rowD (rowOfW (wordsOf l))), .tup (ls.map fun l => .int (markOfW (wordsOf l)))]) (k := 2) (fun d => (pyD d).weight) fun d hd => by
    rcases List.mem_cons.mp hd with rfl | hd
    · exact ⟨h0.py, h0.sh, h0.nd, h0.dp, h0.ls, Nat.le_refl _, h0.cl⟩
    · rcases List.mem_cons.mp hd with rfl | hd
      · exact ⟨h1.py, h1.sh, h1.nd, h1.dp, h1.ls, Nat.le_refl _, h1.cl⟩
      · rw [List.mem_singleton.mp hd]; exact ⟨h2.py, h2.sh, h2.nd, Nat.le_trans h2.dp (by decide), h2.ls, Nat.le_refl _, h2.cl⟩
  refine this.mono (Nat.le_refl _) ?_
  have w0 := h0.wt
  have w1 := h1.wt
  have w2 := h2.wt
  simp only [List.map_cons, List.map_nil, List.sum_cons, List.sum_nil]
  omega
theorem sh_out {x : Str} (hx : x.length ≤ 40000) : Shw (.rol (outL (parseG x))) := by
  obtain ⟨h0, ls, hsp⟩ := split_cons (x := x) (y := "\n")
  have hcost := cost_split (x := x) (y := "\n") nl1 (by decide +kernel)
  rw [hsp, cost_cons] at hcost
  have hll := cost_len ls
  have line : ∀ i : Nat, i ≤ 50000 → Shw (.rol (outL (xBadText i))) := fun i hi => by
    refine (Sh.rol (ds := [.str "line", .int (i : Nat)]) (k := 0) (w := 40) fun d hd => ?_).mono (by decide) (show 2 * 41 ≤ 1000000 by decide)
    rcases List.mem_cons.mp hd with rfl | hd
    · exact Sh.str (by decide +kernel) (by decide +kernel)
    · rw [List.mem_singleton.mp hd]; exact Sh.int (by omega) (by omega)
  have hPG : parseG x = match headL.findIdx? fun z => decide (z = h0) with
    | none => xBadText 0
    | some j => match wrongL ls with
      | some i => xBadText (i + 1)
      | none => if ls = [] then xBadText 1 else if errD (compOfW j ls) = .non then .val (compOfW j ls) else .exc ⟨"BadComp", [("error", errD (compOfW j ls))]⟩ := by unfold parseG; rw [hsp]; try rfl
  rw [hPG]
  cases hj : headL.findIdx? fun z => decide (z = h0) with
  | none => exact line 0 (by omega)
  | some j =>
    have hj3 : j < 3 := (List.findIdx?_eq_some_iff_getElem.mp hj).1
    cases hw : wrongL ls with
    | some i =>
      have : i < ls.length := (List.findIdx?_eq_some_iff_getElem.mp hw).1
      exact line (i + 1) (by omega)
    | none =>
      by_cases hne : ls = []
      · show Shw (.rol (outL (if ls = [] then xBadText 1 else if errD (compOfW j ls) = .non then .val (compOfW j ls) else .exc ⟨"BadComp", [("error", errD (compOfW j ls))]⟩)))
        rw [if_pos hne]; exact line 1 (by omega)
      · show Shw (.rol (outL (if ls = [] then xBadText 1 else if errD (compOfW j ls) = .non then .val (compOfW j ls) else .exc ⟨"BadComp", [("error", errD (compOfW j ls))]⟩)))
        rw [if_neg hne]
        have hll2 : ∀ l ∈ ls, l.length ≤ 99000 := fun l hl => by have := cost_mem hl; omega
        split
        · have h1 := cw_sh hj3 (wrong_none hw)
          refine (sh_rolS (ds := [.str "ok", compOfW j ls]) (k := 3) (fun d => if d = compOfW j ls then 143 + 21 * costS ls else 40) fun d hd => ?_).mono (by decide) ?_
          · rcases List.mem_cons.mp hd with rfl | hd
            · have : ¬ (D.str "ok" = compOfW j ls) := by intro e; cases e
              rw [if_neg this]
              exact Sh.str (by decide +kernel) (by decide +kernel)
            · rw [List.mem_singleton.mp hd, if_pos rfl]; exact h1
          · have : ¬ (D.str "ok" = compOfW j ls) := by intro e; cases e
            simp only [List.map_cons, List.map_nil, List.sum_cons, List.sum_nil, if_neg this, if_pos]
            omega
        · have he := sh_err (compOfW j ls) 100000 (by decide) (cw_sz (by omega) hll2)
          refine (Sh.rol (ds := [.str "comp", errD (compOfW j ls)]) (k := 1) (w := 100) fun d hd => ?_).mono (by decide) (show 2 * 101 ≤ 1000000 by decide)
          rcases List.mem_cons.mp hd with rfl | hd
          · exact Sh.str (by decide +kernel) (by decide +kernel)
          · rw [List.mem_singleton.mp hd]; exact he
theorem one_str {q : Dk} {l : List Str} (ok : DkOk q.1 q.2) (h0 : l ≠ []) (h1 : l.length ≤ 1000000) (hc : q.2 + 1 ≤ dkMost) : ∃ (y : Str) (q' : Dk), F__law_one [.rol (l.map D.str)] q = some (.str y, q') ∧ y ∈ l ∧ DkOk q'.1 q'.2 ∧ q'.2 = q.2 + 1 := by
  obtain ⟨a, q', e, ha, ok', hq⟩ := law_one_eq (xs := l.map D.str) ok (by simpa using h0) (imAll_strs l) (by rw [List.length_map]; exact h1) hc
  obtain ⟨y, hy, rfl⟩ := List.mem_map.mp ha
  exact ⟨y, q', e, hy, ok', hq⟩
theorem one_ints {q : Dk} {l : List Int} (ok : DkOk q.1 q.2) (h0 : l ≠ []) (h1 : l.length ≤ 1000000) (hc : q.2 + 1 ≤ dkMost) : ∃ (y : Int) (q' : Dk), F__law_one [.rol (l.map D.int)] q = some (.int y, q') ∧ y ∈ l ∧ DkOk q'.1 q'.2 ∧ q'.2 = q.2 + 1 := by
  obtain ⟨a, q', e, ha, ok', hq⟩ := law_one_eq (xs := l.map D.int) ok (by simpa using h0) (imAll_ints l) (by rw [List.length_map]; exact h1) hc
  obtain ⟨y, hy, rfl⟩ := List.mem_map.mp ha
  exact ⟨y, q', e, hy, ok', hq⟩
theorem one_nats {q : Dk} {l : List Nat} (ok : DkOk q.1 q.2) (h0 : l ≠ []) (h1 : l.length ≤ 1000000) (hc : q.2 + 1 ≤ dkMost) : ∃ (y : Nat) (q' : Dk), F__law_one [.rol (l.map fun n => D.int (n : Nat))] q = some (.int (y : Nat), q') ∧ y ∈ l ∧ DkOk q'.1 q'.2 ∧ q'.2 = q.2 + 1 := by
  obtain ⟨a, q', e, ha, ok', hq⟩ := law_one_eq (xs := l.map fun n => D.int (n : Nat)) ok (by simpa using h0) (imAll_map fun _ _ => rfl) (by rw [List.length_map]; exact h1) hc
  obtain ⟨y, hy, rfl⟩ := List.mem_map.mp ha
  exact ⟨y, q', e, hy, ok', hq⟩
theorem one_lists {q : Dk} {l : List (List Str)} (ok : DkOk q.1 q.2) (h0 : l ≠ []) (h1 : l.length ≤ 1000000) (hc : q.2 + 1 ≤ dkMost) : ∃ (y : List Str) (q' : Dk), F__law_one [.rol (l.map fun y => .rol (y.map D.str))] q = some (.rol (y.map D.str), q') ∧ y ∈ l ∧ DkOk q'.1 q'.2 ∧ q'.2 = q.2 + 1 := by
  obtain ⟨a, q', e, ha, ok', hq⟩ := law_one_eq (xs := l.map fun y => .rol (y.map D.str)) ok (by simpa using h0) (imAll_map fun y _ => by simp) (by rw [List.length_map]; exact h1) hc
  obtain ⟨y, hy, rfl⟩ := List.mem_map.mp ha
  exact ⟨y, q', e, hy, ok', hq⟩
theorem draw_nat {q : Dk} {n : Nat} (ok : DkOk q.1 q.2) (h0 : 0 < n) (h1 : n ≤ 1000000000) (hc : q.2 + 1 ≤ dkMost) : ∃ (k : Nat) (q' : Dk), F__law_draw [.int n] q = some (.int k, q') ∧ k < n ∧ DkOk q'.1 q'.2 ∧ q'.2 = q.2 + 1 := by
  obtain ⟨k, q', e, k0, k1, ok', hq⟩ := law_draw_eq (n := n) ok (by omega) (by omega) hc
  obtain ⟨j, rfl⟩ : ∃ j : Nat, k = j := ⟨k.toNat, by omega⟩
  exact ⟨j, q', e, by omega, ok', hq⟩
theorem deck_start (ns : List Int) (h : ns.length ≤ 63) : ∃ q0 : Dk, F__law_deck [.rol (ns.map D.int)] [] = .ok (.obj 1) (dkS q0) ∧ DkOk q0.1 q0.2 ∧ q0.2 = 0 :=
  ⟨_, law_deck_eq h, ⟨fun x hx => by obtain ⟨i, _, rfl⟩ := List.mem_map.mp hx; omega, by simpa using h, Int.le_refl _⟩, rfl⟩
theorem wide_words {r : List Nat} {v : Int} (hr : r ≠ []) (h : ∀ n ∈ r, n < 1000000000) (v1 : -1 ≤ v) (v2 : v ≤ 1) : wordsB (wordsOf (lineS r v)) = true ∧ rowOfW (wordsOf (lineS r v)) = r ∧ markOfW (wordsOf (lineS r v)) = v := by
  have hw : wordsOf (lineS r v) = partsS r v := line_split r v
  obtain ⟨n, t, rfl⟩ := List.exists_cons_of_ne_nil hr
  have hp : partsS (n :: t) v = ("state" : Str) :: (numS n :: t.map numS ++ [wordS v]) := rfl
  rw [hw, hp]
  refine ⟨?_, ?_, ?_⟩
  · rw [wordsB_mk]
    have h1 : (wordL.any fun y => y == wordS v) = true := by
      have : v = -1 ∨ v = 0 ∨ v = 1 := by omega
      rcases this with rfl | rfl | rfl <;> decide +kernel
    have h2 : ((numS n :: t.map numS).filter fun x => !figB (tl x) 9) = [] := by
      rw [List.filter_eq_nil_iff]
      intro x hx
      rw [← List.map_cons] at hx
      obtain ⟨m, hm, rfl⟩ := List.mem_map.mp hx
      rw [num_figG (h m hm)]; decide
    rw [h1, h2]; rfl
  · unfold rowOfW
    rw [show cutN (("state" : Str) :: (numS n :: t.map numS ++ [wordS v])) (some 1) (some (-1)) = numS n :: t.map numS from cut_mid _ _ _, ← List.map_cons, List.map_map]
    conv => rhs; rw [← List.map_id (n :: t)]
    exact List.map_congr_left fun m _ => numS_val m
  · unfold markOfW
    rw [show (("state" : Str) :: (numS n :: t.map numS ++ [wordS v])).getLastD "" = wordS v from getLastD_app _ _ _ _]
    have : v = -1 ∨ v = 0 ∨ v = 1 := by omega
    rcases this with rfl | rfl | rfl <;> decide +kernel
theorem head_idx {L : Nat} (h1 : 1 ≤ L) (h3 : L ≤ 3) : (headL.findIdx? fun z => decide (z = headS L)) = some (L - 1) := by
  rcases lcase h1 h3 with rfl | rfl | rfl <;> decide +kernel
/-! ## long texts: plain facts -/
theorem joinL_snoc {S p : List Nat} : ∀ {ps : List (List Nat)}, ps ≠ [] → joinL S (ps ++ [p]) = joinL S ps ++ (S ++ p)
  | [], h => absurd rfl h
  | [a], _ => rfl
  | a :: b :: r, _ => by
    show a ++ (S ++ joinL S (b :: r ++ [p])) = (a ++ (S ++ joinL S (b :: r))) ++ (S ++ p)
    rw [joinL_snoc (ps := b :: r) (by simp)]
    simp only [List.append_assoc]
theorem joinL_cons {S p : List Nat} {ps : List (List Nat)} (h : ps ≠ []) : joinL S (p :: ps) = p ++ (S ++ joinL S ps) := by
  cases ps with
  | nil => exact absurd rfl h
  | cons a r => rfl
theorem map_ne {ws : List Str} (h : ws ≠ []) : ws.map tl ≠ [] := fun e => h (List.map_eq_nil_iff.mp e)
theorem join_snoc {ws : List Str} (h : ws ≠ []) (z : Str) : Txt.join " " (ws ++ [z]) = Txt.join " " ws ++ " " ++ z := by
  refine tl_inj' ?_
  rw [join_tl, List.map_append, tl_append, tl_append, join_tl]
  exact (joinL_snoc (map_ne h)).trans (by rw [List.append_assoc])
theorem join_cons {ws : List Str} (h : ws ≠ []) (z : Str) : Txt.join " " (z :: ws) = z ++ (" " ++ Txt.join " " ws) := by
  refine tl_inj' ?_
  rw [join_tl, List.map_cons, tl_append, tl_append, join_tl]
  exact joinL_cons (map_ne h)
theorem words_join {ws : List Str} (h : ws ≠ []) (hf : ∀ w ∈ ws, 32 ∉ tl w) : wordsOf (Txt.join " " ws) = ws :=
  split_join (s := 32) (S := []) (by decide +kernel) (by decide +kernel) h hf
theorem wb_head {a : Str} {t : List Str} (h : a ≠ "state") : wordsB (a :: t) = false := by
  have : decide ((a :: t).getD 0 "" = "state") = false := decide_eq_false h
  unfold wordsB
  rw [this]; simp
theorem wb_last {l : List Str} {z : Str} (h : z ∉ wordL) : wordsB (l ++ [z]) = false := by
  have e : (l ++ [z]).getLastD "" = z := by simp
  have : (wordL.any fun y => y == (l ++ [z]).getLastD "") = false := by
    rw [e, List.any_eq_false]
    intro y hy hz
    exact h (by rw [← eq_of_beq hz]; exact hy)
  unfold wordsB
  rw [this]; simp
/-- all signs of a part that stands at the head of l stand in l -/
theorem pre_mem {S l : List Nat} (h : pre S l = true) : ∀ c ∈ S, c ∈ l := fun c hc => by
  have e : l.take S.length = S := eq_of_beq h
  rw [← e] at hc
  exact List.mem_of_mem_take hc
theorem replace_of_split {x y z : Str} {ps : List Str} (h : Txt.split x y = ps) (h2 : 2 ≤ ps.length) (hy : y.length ≠ 0) : Txt.replace x y z = Txt.join z ps := by
  unfold Txt.split at h
  split at h
  · subst h; simp at h2
  · split at h
    · subst h; simp at h2
    · rename_i h3
      unfold Txt.replace
      have hy2 : (y.length == 0) = false := by simpa using hy
      rw [if_neg (by simp [hy2, h3])]
      rw [h]; rfl
theorem state_split {ws : List Str} (hne : ws ≠ []) (hf : ∀ w ∈ ws, 116 ∉ tl w) : Txt.split (Txt.join " " (("state" : Str) :: ws)) "state" = [Str.ofString "", Str.ofString " " ++ Txt.join " " ws] := by
  refine map_tl_inj ?_
  rw [split_spl _ "state" (by decide +kernel) (kind_ok (by decide +kernel)), join_cons hne, tl_append]
  have hR : 116 ∉ tl (" " ++ Txt.join " " ws) := fun h => by
    rw [tl_append, join_tl] at h
    rcases List.mem_append.mp h with z | z
    · revert z; decide +kernel
    · rcases mem_joinL z with z | ⟨p, hp, z⟩
      · revert z; decide +kernel
      · obtain ⟨w, hw, rfl⟩ := List.mem_map.mp hp
        exact hf w hw z
  have e1 := spl_part (S := tl "state") (p := []) (rest := tl (" " ++ Txt.join " " ws)) (acc := []) (by decide +kernel) (fun i hi => absurd hi (Nat.not_lt_zero _))
  have e2 := spl_last (S := tl "state") (p := tl (" " ++ Txt.join " " ws)) (acc := []) (fun i _ => by
    cases hp : pre (tl "state") ((tl (" " ++ Txt.join " " ws)).drop i) with
    | false => rfl
    | true => exact absurd (List.mem_of_mem_drop (pre_mem hp 116 (by decide +kernel))) hR)
  rw [List.nil_append] at e1
  rw [e1, e2]; rfl
theorem replace_line {ws : List Str} (hne : ws ≠ []) (hf : ∀ w ∈ ws, 116 ∉ tl w) : Txt.replace (Txt.join " " (("state" : Str) :: ws)) "state" "states" = Txt.join " " (("states" : Str) :: ws) := by
  rw [replace_of_split (state_split hne hf) (Nat.le_refl 2) (by decide +kernel), join_cons hne]
  refine tl_inj' ?_
  rw [join_tl, tl_append, tl_append, List.map_cons, List.map_cons, List.map_nil, tl_append]; rfl
/-! ### the line that is long -/
theorem num_free {n k : Nat} (hn : n < 1000) (h : k = 10 ∨ k = 32 ∨ k = 116) : k ∉ tl (numS n) := by
  exact int_text_free' k (by rcases h with rfl | rfl | rfl <;> decide) n
/-- what stands behind "state" -/
def restS (r : List Nat) (v : Int) : List Str := r.map numS ++ [wordS v]
theorem rest_ne (r : List Nat) (v : Int) : restS r v ≠ [] := by unfold restS; simp
theorem word_free {v : Int} (v1 : -1 ≤ v) (v2 : v ≤ 1) : 116 ∉ tl (wordS v) ∧ (mkS (tl (wordS v)).dropLast ∉ wordL ∧ 10 ∉ (tl (wordS v)).dropLast ∧ 32 ∉ (tl (wordS v)).dropLast) ∧ tl (wordS v) ≠ [] := by
  have : v = -1 ∨ v = 0 ∨ v = 1 := by omega
  rcases this with rfl | rfl | rfl <;> decide +kernel
theorem rest_free {r : List Nat} {v : Int} (h : ∀ n ∈ r, n < 1000) (v1 : -1 ≤ v) (v2 : v ≤ 1) : ∀ w ∈ restS r v, 10 ∉ tl w ∧ 32 ∉ tl w ∧ 116 ∉ tl w := fun w hw => by
  rcases List.mem_append.mp hw with z | z
  · obtain ⟨n, hn, rfl⟩ := List.mem_map.mp z
    exact ⟨num_free (h n hn) (.inl rfl), num_free (h n hn) (.inr (.inl rfl)), num_free (h n hn) (.inr (.inr rfl))⟩
  · rw [List.mem_singleton.mp z]
    exact ⟨wordS_free (.inl rfl), wordS_free (.inr rfl), (word_free v1 v2).1⟩
theorem lineS_eq (r : List Nat) (v : Int) : lineS r v = Txt.join " " (("state" : Str) :: restS r v) := rfl
/-- a line that is wrong, with no end of line in it -/
def Odd (x : Str) : Prop := wordsB (wordsOf x) = false ∧ 10 ∉ tl x ∧ x.length ≤ 10000
theorem join_free {ws : List Str} (h : ∀ w ∈ ws, 10 ∉ tl w) : 10 ∉ tl (Txt.join " " ws) := fun z => by
  rw [join_tl] at z
  rcases mem_joinL z with z | ⟨p, hp, z⟩
  · revert z; decide +kernel
  · obtain ⟨w, hw, rfl⟩ := List.mem_map.mp hp
    exact h w hw z
theorem odd_join {ws : List Str} (hne : ws ≠ []) (hf : ∀ w ∈ ws, 10 ∉ tl w ∧ 32 ∉ tl w) (hw : wordsB ws = false) (hl : (Txt.join " " ws).length ≤ 10000) : Odd (Txt.join " " ws) :=
  ⟨by rw [words_join hne fun w h => (hf w h).2]; exact hw, join_free fun w h => (hf w h).1, hl⟩
theorem odd_const : ∀ x ∈ (["", "x", "letters a", "state", "state same", "state 1  2 same", "state 01 same", "state 1111111111 same", "state 1,1 same"] : List Str), Odd x := by
  have key : ∀ x ∈ (["", "x", "letters a", "state", "state same", "state 1  2 same", "state 01 same", "state 1111111111 same", "state 1,1 same"] : List Str), wordsB (wordsOf x) = false ∧ 10 ∉ tl x ∧ x.length ≤ 10000 := by decide +kernel
  exact key
theorem str_len_app (x y : Str) : (x ++ y).length = x.length + y.length := by rw [← tl_len, tl_append, List.length_append, tl_len, tl_len]
section
variable {r : List Nat} {v : Int} (h : ∀ n ∈ r, n < 1000) (v1 : -1 ≤ v) (v2 : v ≤ 1) (hl : (lineS r v).length ≤ 1400)
theorem st_free : ∀ w ∈ (("state" : Str) :: restS r v), (∀ n ∈ r, n < 1000) → -1 ≤ v → v ≤ 1 → 10 ∉ tl w ∧ 32 ∉ tl w := fun w hw h v1 v2 => by
  rcases List.mem_cons.mp hw with rfl | hw
  · exact ⟨by decide +kernel, by decide +kernel⟩
  · have := rest_free h v1 v2 w hw
    exact ⟨this.1, this.2.1⟩
include h v1 v2 hl in
theorem odd_blank : Odd (lineS r v ++ " ") := by
  have e : lineS r v ++ " " = Txt.join " " ((("state" : Str) :: restS r v) ++ [Str.ofString ""]) := by
    rw [join_snoc (by simp), lineS_eq]
    refine tl_inj' ?_
    rw [tl_append, tl_append, tl_append]; simp; rfl
  have hz : (lineS r v ++ " ").length ≤ 10000 := by rw [str_len_app, show (" " : Str).length = 1 by decide +kernel]; omega
  rw [e] at hz ⊢
  refine odd_join (by simp) (fun w hw => ?_) (wb_last (by decide +kernel)) hz
  rcases List.mem_append.mp hw with z | z
  · exact st_free w z h v1 v2
  · rw [List.mem_singleton.mp z]; exact ⟨by decide +kernel, by decide +kernel⟩
include h v1 v2 hl in
theorem odd_one : Odd (lineS r v ++ " 1") := by
  have e : lineS r v ++ " 1" = Txt.join " " ((("state" : Str) :: restS r v) ++ [Str.ofString "1"]) := by
    rw [join_snoc (by simp), lineS_eq]
    refine tl_inj' ?_
    rw [tl_append, tl_append, tl_append, List.append_assoc]; rfl
  have hz : (lineS r v ++ " 1").length ≤ 10000 := by rw [str_len_app, show (" 1" : Str).length = 2 by decide +kernel]; omega
  rw [e] at hz ⊢
  refine odd_join (by simp) (fun w hw => ?_) (wb_last (by decide +kernel)) hz
  rcases List.mem_append.mp hw with z | z
  · exact st_free w z h v1 v2
  · rw [List.mem_singleton.mp z]; exact ⟨by decide +kernel, by decide +kernel⟩
include h v1 v2 hl in
theorem odd_ahead : Odd (" " ++ lineS r v) := by
  have e : " " ++ lineS r v = Txt.join " " ("" :: (("state" : Str) :: restS r v)) := by
    rw [join_cons (by simp), lineS_eq]
    refine tl_inj' ?_
    rw [tl_append, tl_append, tl_append]; rfl
  have hz : (" " ++ lineS r v).length ≤ 10000 := by rw [str_len_app, show (" " : Str).length = 1 by decide +kernel]; omega
  rw [e] at hz ⊢
  refine odd_join (by simp) (fun w hw => ?_) (wb_head (by decide +kernel)) hz
  rcases List.mem_cons.mp hw with rfl | z
  · exact ⟨by decide +kernel, by decide +kernel⟩
  · exact st_free w z h v1 v2
include h v1 v2 hl in
theorem odd_states : Odd (Txt.replace (lineS r v) "state" "states") := by
  have hz : (Txt.replace (lineS r v) "state" "states").length ≤ 10000 := by
    have := TK.replace_len (lineS r v) "state" "states"
    have h6 : (Str.ofString "states").length = 6 := by decide +kernel
    rw [h6] at this
    refine Nat.le_trans this ?_
    omega
  have e : Txt.replace (lineS r v) "state" "states" = Txt.join " " (("states" : Str) :: restS r v) := replace_line (rest_ne r v) fun w hw => (rest_free h v1 v2 w hw).2.2
  rw [e] at hz ⊢
  refine odd_join (by simp) (fun w hw => ?_) (wb_head (by decide +kernel)) hz
  rcases List.mem_cons.mp hw with rfl | z
  · exact ⟨by decide +kernel, by decide +kernel⟩
  · exact st_free w (List.mem_cons_of_mem _ z) h v1 v2
include h v1 v2 hl in
theorem odd_cut : Odd (mkS (tl (lineS r v)).dropLast) := by
  have hw0 := word_free v1 v2
  have e : mkS (tl (lineS r v)).dropLast = Txt.join " " ((("state" : Str) :: r.map numS) ++ [mkS (tl (wordS v)).dropLast]) := by
    refine tl_inj' ?_
    show (tl (lineS r v)).dropLast = _
    have e1 : lineS r v = Txt.join " " ((("state" : Str) :: r.map numS) ++ [wordS v]) := rfl
    rw [e1, join_snoc (by simp), join_snoc (by simp), tl_append, tl_append]
    rw [tl_append, tl_append, List.dropLast_append_of_ne_nil hw0.2.2]; rfl
  have hz : (mkS (tl (lineS r v)).dropLast).length ≤ 10000 := by
    rw [mkS_len, List.length_dropLast, tl_len]; omega
  rw [e] at hz ⊢
  refine odd_join (by simp) (fun w hw => ?_) (wb_last hw0.2.1.1) hz
  rcases List.mem_append.mp hw with z | z
  · exact st_free w (by rcases List.mem_cons.mp z with rfl | z
                        · exact List.mem_cons_self
                        · exact List.mem_cons_of_mem _ (List.mem_append_left _ z)) h v1 v2
  · rw [List.mem_singleton.mp z]; exact hw0.2.1.2
end
/-! ### what is read -/
def plainL : Str := "state 0 22 same"
theorem plain_line : plainL = lineS [0, 22] 0 := by decide +kernel
theorem plain_words : wordsB (wordsOf plainL) = true ∧ rowOfW (wordsOf plainL) = [0, 22] := by
  rw [plain_line]
  have := wide_words (r := [0, 22]) (v := 0) (by simp) (by simp) (by decide) (by decide)
  exact ⟨this.1, this.2.1⟩
theorem plain_free : 10 ∉ tl plainL := by decide +kernel
theorem heads_free : ∀ hd ∈ headL, 10 ∉ tl hd ∧ hd.length ≤ 11 := by decide +kernel
theorem heads_at : ∀ hd ∈ headL, ∃ j, j < 3 ∧ (headL.findIdx? fun z => decide (z = hd)) = some j := by
  intro hd h
  simp only [headL, List.mem_cons, List.not_mem_nil, or_false] at h
  rcases h with rfl | rfl | rfl
  · exact ⟨0, by decide, by decide +kernel⟩
  · exact ⟨1, by decide, by decide +kernel⟩
  · exact ⟨2, by decide, by decide +kernel⟩
theorem lines_split {ls : List Str} (hne : ls ≠ []) (h : ∀ l ∈ ls, 10 ∉ tl l) : Txt.split (Txt.join "\n" ls) "\n" = ls :=
  split_join (s := 10) (S := []) (by decide +kernel) (by decide +kernel) hne h
theorem parse_wrong {hd o : Str} {a b : Nat} (hh : hd ∈ headL) (ho : Odd o) : parseG (Txt.join "\n" (hd :: (List.replicate a plainL ++ o :: List.replicate b plainL))) = xBadText (a + 1) := by
  obtain ⟨j, _, ej⟩ := heads_at hd hh
  unfold parseG
  rw [lines_split (by simp) fun l hl => by
    rcases List.mem_cons.mp hl with rfl | hl
    · exact (heads_free _ hh).1
    · rcases List.mem_append.mp hl with z | z
      · rw [List.eq_of_mem_replicate z]; exact plain_free
      · rcases List.mem_cons.mp z with rfl | z
        · exact ho.2.1
        · rw [List.eq_of_mem_replicate z]; exact plain_free]
  have hw : wrongL (List.replicate a plainL ++ o :: List.replicate b plainL) = some a := by
    unfold wrongL
    refine List.findIdx?_eq_some_iff_getElem.mpr ⟨by simp, ?_, fun k hk => ?_⟩
    · rw [List.getElem_append_right (by simp)]
      simp [ho.1]
    · rw [List.getElem_append_left (by simpa using hk), List.getElem_replicate, plain_words.1]; decide
  simp only [ej, hw]
theorem parse_head {ls : List Str} (h : ∀ l ∈ ls, 10 ∉ tl l) : parseG (Txt.join "\n" (("letters b" : Str) :: ls)) = xBadText 0 := by
  unfold parseG
  rw [lines_split (by simp) fun l hl => by
    rcases List.mem_cons.mp hl with rfl | hl
    · decide +kernel
    · exact h l hl]
  have e : (headL.findIdx? fun z => decide (z = ("letters b" : Str))) = none := by decide +kernel
  simp only [e]
/-- no comparison: some row has two numbers -/
theorem parse_none {hd : Str} {ls : List Str} (hh : hd ∈ headL) (h : ∀ l ∈ ls, 10 ∉ tl l ∧ wordsB (wordsOf l) = true) (hp : plainL ∈ ls) : ∃ e : D, outL (parseG (Txt.join "\n" (hd :: ls))) = [.str "comp", e] ∧ e.im = true := by
  obtain ⟨j, hj, ej⟩ := heads_at hd hh
  have hne : ls ≠ [] := fun e => by rw [e] at hp; exact absurd hp List.not_mem_nil
  have hw : wrongL ls = none := List.findIdx?_eq_none_iff.mpr fun l hl => by rw [(h l hl).2]; rfl
  have hE : ∃ k : Nat, errD (compOfW j ls) = badD (.int (k : Nat)) "row" := by
    unfold compOfW
    have hi : intInD 1 3 (.int ((j + 1 : Nat) : Int)) = true := by
      show (decide ((1 : Int) ≤ ((j + 1 : Nat) : Int)) && decide (((j + 1 : Nat) : Int) ≤ 3)) = true
      rw [decide_eq_true (by omega), decide_eq_true (by omega)]; rfl
    rw [show (((j : Int) + 1)) = ((j + 1 : Nat) : Int) from rfl, err_in hi (by simpa using hne)]
    unfold errR
    cases hf : ((ls.map fun l => rowD (rowOfW (wordsOf l))).findIdx? fun r => !isRowD (j + 1) (ls.map fun l => rowD (rowOfW (wordsOf l))).length r) with
    | some k => exact ⟨k, rfl⟩
    | none =>
      exfalso
      have := List.findIdx?_eq_none_iff.mp hf (rowD (rowOfW (wordsOf plainL))) (List.mem_map_of_mem hp)
      rw [plain_words.2] at this
      have key : ∀ j ∈ [0, 1, 2], decide (([D.int 0, D.int 22] : List D).length = wideN (j + 1)) = false := by decide +kernel
      have k2 := key j (by have : j = 0 ∨ j = 1 ∨ j = 2 := by omega
                           rcases this with rfl | rfl | rfl <;> simp)
      have : isRowD (j + 1) (ls.map fun l => rowD (rowOfW (wordsOf l))).length (rowD [0, 22]) = true := by simpa using this
      unfold isRowD rowD at this
      simp only [List.map_cons, List.map_nil] at this
      rw [show decide ([D.int ((0 : Nat) : Int), D.int ((22 : Nat) : Int)].length = wideN (j + 1)) = false from k2] at this
      cases this
  obtain ⟨k, hk⟩ := hE
  refine ⟨_, ?_, show (errD (compOfW j ls)).im = true by rw [hk]; rfl⟩
  unfold parseG
  rw [lines_split (by simp) fun l hl => by
    rcases List.mem_cons.mp hl with rfl | hl
    · exact (heads_free _ hh).1
    · exact (h l hl).1]
  have hcc : ¬ (Str.ofString "BadComp" = Str.ofString "BadText") := by decide +kernel
  have hnn : ¬ errD (compOfW j ls) = .non := by rw [hk]; exact fun z => nomatch z
  simp only [ej, hw, if_neg hne, if_neg hnn]
  simp [outL, hcc]
theorem cost_rep (n : Nat) (x : Str) : costS (List.replicate n x) = n * (x.length + 1) := by
  induction n with
  | zero => simp
  | succ n ih => rw [List.replicate_succ, cost_cons, ih, Nat.succ_mul]; omega
theorem plain_len : plainL.length = 15 := by decide +kernel
/-- the lines of a long text -/
def linesL (hd : Str) (n : Nat) : List Str := hd :: List.replicate n plainL
theorem lines_cost {hd : Str} (h : hd ∈ headL) {n : Nat} (hn : n ≤ 200) : costS (linesL hd n) ≤ 3212 := by
  unfold linesL
  have := (heads_free hd h).2
  rw [cost_cons, cost_rep, plain_len]; omega
theorem lines_to {hd : Str} {n a : Nat} (h : a ≤ n) : cutN (linesL hd n) none (some ((a : Int) + 1)) = linesL hd a := by
  have := cutN_to (linesL hd n) (a + 1)
  rw [show (((a + 1 : Nat) : Int)) = (a : Int) + 1 from rfl] at this
  rw [this]
  unfold linesL
  rw [List.take_succ_cons, List.take_replicate, Nat.min_eq_left h]
theorem lines_from {hd : Str} {n a : Nat} : cutN (linesL hd n) (some ((a : Int) + 1 + 1)) none = List.replicate (n - (a + 1)) plainL := by
  have := cutN_from (linesL hd n) (a + 2)
  rw [show (((a + 2 : Nat) : Int)) = (a : Int) + 1 + 1 by omega] at this
  rw [this]
  unfold linesL
  rw [List.drop_succ_cons, List.drop_replicate]
/-- a text with one line otherwise -/
theorem ask_wrong {hd o : Str} {a b : Nat} (hh : hd ∈ headL) (ho : Odd o) (ha : a ≤ 200) (hb : b ≤ 200) : F__law_parsed [.str (Txt.join "\n" (linesL hd a ++ o :: List.replicate b plainL))] = some [.str "line", .int ((a : Int) + 1)] ∧ Shw (.rol [.str "line", .int ((a : Int) + 1)]) := by
  have hp := parse_wrong (a := a) (b := b) hh ho
  have hc := cost_join_le nl1 (linesL hd a ++ o :: List.replicate b plainL)
  have h1 := lines_cost hh ha
  rw [cost_app, cost_cons, cost_rep, plain_len] at hc
  have h2 := ho.2.2
  have hz : (Txt.join "\n" (linesL hd a ++ o :: List.replicate b plainL)).length ≤ 40000 := by omega
  have e1 := law_parsed_eq (x := Txt.join "\n" (linesL hd a ++ o :: List.replicate b plainL)) (by omega)
  have e2 := sh_out hz
  have hj : Txt.join "\n" (linesL hd a ++ o :: List.replicate b plainL) = Txt.join "\n" (hd :: (List.replicate a plainL ++ o :: List.replicate b plainL)) := rfl
  have ho : outL (parseG (Txt.join "\n" (linesL hd a ++ o :: List.replicate b plainL))) = [.str "line", .int ((a : Int) + 1)] := by rw [hj, hp]; rfl
  rw [ho] at e1 e2
  exact ⟨e1, e2⟩
theorem ask_none {hd : Str} {ls : List Str} (hh : hd ∈ headL) (h : ∀ l ∈ ls, 10 ∉ tl l ∧ wordsB (wordsOf l) = true) (hp : plainL ∈ ls) (hz : costS ls ≤ 30000) : ∃ e : D, F__law_parsed [.str (Txt.join "\n" (hd :: ls))] = some [.str "comp", e] ∧ e.im = true := by
  obtain ⟨e, ho, hi⟩ := parse_none hh h hp
  have hc := cost_join_le nl1 (hd :: ls)
  have h2 := (heads_free hd hh).2
  rw [cost_cons] at hc
  have e1 := law_parsed_eq (x := Txt.join "\n" (hd :: ls)) (by omega)
  rw [ho] at e1
  exact ⟨e, e1, hi⟩
theorem law_L1_turn {S i : D} {many a : Nat} {hd o : Str} {s6 s8 s9 : Option D} {m : List Ob} (hh : hd ∈ headL) (ho : Odd o) (hm : many ≤ 200) (ha : a < many) :
    turn (gNm 10) m_law_L1 (.str o) [some S, some (.obj 1), some i, some (.int (many : Nat)), some (.rol ((linesL hd many).map D.str)), some (.int ((a : Int) + 1)), s6, none, s8, s9, none] m =
      .ok (.nx [some S, some (.obj 1), some i, some (.int (many : Nat)), some (.rol ((linesL hd many).map D.str)), some (.int ((a : Int) + 1)), s6, none, s8, s9, some (.str o)]) m := by
  obtain ⟨h1, h2⟩ := ask_wrong (a := a) (b := many - (a + 1)) hh ho (by omega) (by omega)
  have c1 := lines_to (hd := hd) (n := many) (a := a) (by omega)
  have c2 := lines_from (hd := hd) (n := many) (a := a)
  have k1 := lines_cost hh (n := many) hm
  have k2 := lines_cost hh (n := a) (by omega)
  have k3 := cost_rep (many - (a + 1)) plainL
  rw [plain_len] at k3
  generalize List.replicate (many - (a + 1)) plainL = B at *
  generalize linesL hd a = A at *
  generalize linesL hd many = C at *
  have l1 := cost_len A
  have l2 := cost_len B
  have l3 := cost_len C
  have s1 := cost_sum A
  have s2 := cost_sum B
  have hol := ho.2.2
  have n1 : (Str.ofString "\n").length = 1 := by decide +kernel
  rw [turn_nm]
  simp only [List.set_cons_succ, List.set_cons_zero]
  simp (disch := first | omega | simp) [m_law_L1, cutD_map, c1, c2, if_leN, n1, h1, h2]
theorem law_wide {m : Nat} {q : Dk} {ds : Slots} (hq : Dq q 200) (hm : m ≤ 120) (hd1 : ds[1]? = some (some (.obj 1))) : ∃ (r : List Nat) (q' : Dk), lcL .tt (app1 7) ds yesT (bltE bStr (aCons (callK F__law_draw (aCons (nm 1) (aCons (cst (.int 1000)) aNil))) aNil)) ((List.range m).map fun i => .int (i : Nat)) (dkS q) = .ok (r.map fun n => D.str (numS n)) (dkS q') ∧ r.length = m ∧ (∀ n ∈ r, n < 1000) ∧ Dr q q' 120 := by
  have hle := hq.le
  obtain ⟨r, q', e, r1, r2, d⟩ := lcL_dk (g := .tt) (app := app1 7) (ds0 := ds) (elt := bltE bStr (aCons (callK F__law_draw (aCons (nm 1) (aCons (cst (.int 1000)) aNil))) aNil)) (fun n : Nat => D.str (numS n)) (fun _ n => n < 1000) 1 [] ((List.range m).map fun i => .int (i : Nat)) q (fun _ => trivial) hq.ok (fun d hd q1 ok1 hc => by
    rw [List.length_map, List.length_range] at hc
    obtain ⟨k, q2, e, hk, ok2, h2⟩ := draw_nat (q := q1) (n := 1000) ok1 (by omega) (by omega) (by omega)
    have e' : F__law_draw [.int 1000] q1 = some (.int (k : Nat), q2) := e
    have e1 : (ds.set 7 (some d))[1]? = some (some (.obj 1)) := by rw [List.getElem?_set_ne (by decide)]; exact hd1
    have hlog : k.log2 < 1920 := log_small (by omega)
    exact ⟨_, k, q2, rfl, by simp [e', e1, hlog, numS], hk, ok2, by omega, by omega⟩)
  rw [List.length_map, List.length_range] at r1 d
  simp only [List.append_nil] at e
  exact ⟨r, q', e, r1, fun n hn => by obtain ⟨_, _, z⟩ := r2 n hn; exact z, d.mono (by omega)⟩
theorem wide_len {r : List Nat} {v : Int} (hr : r.length ≤ 120) (h : ∀ n ∈ r, n < 1000) : (lineS r v).length ≤ 1400 ∧ costS (r.map numS) ≤ 1320 := by
  have hc : costS (r.map numS) ≤ 11 * r.length := by
    clear hr
    induction r with
    | nil => exact Nat.le_refl _
    | cons n r ih =>
      have h1 := ih fun m hm => h m (List.mem_cons_of_mem _ hm)
      have h2 : (numS n).length ≤ 10 := numS_len (by have := h n List.mem_cons_self; omega)
      rw [List.map_cons, cost_cons, List.length_cons]; omega
  have hj := cost_join_le sp1 (partsS r v)
  have hp : costS (partsS r v) = 6 + (costS (r.map numS) + 5) := by
    unfold partsS
    rw [cost_cons, cost_app, cost_cons, cost_nil, wordS_len, show (Str.ofString "state").length = 5 by decide +kernel]
  rw [hp] at hj
  exact ⟨by show (Txt.join " " (partsS r v)).length ≤ 1400; omega, by omega⟩
theorem law_turn2 {S i : D} {q : Dk} (hq : Dq q 400) : ∃ (Sl : Slots) (q' : Dk), Dr q q' 400 ∧ turn (gNm 2) m_law_L2 i ([some S, some (.obj 1)] ++ List.replicate 9 none) (dkS q) = .ok (.nx Sl) (dkS q') ∧ ∃ a b c d e f g h, Sl = [some S, some (.obj 1), a, b, c, d, e, none, f, g, h] := by
  have hle := hq.le
  obtain ⟨n0, q1, e1, hn0, ok1, hq1⟩ := draw_nat (n := 150) hq.ok (by omega) (by omega) (by omega)
  have e1' : F__law_draw [.int 150] q = some (.int (n0 : Nat), q1) := e1
  obtain ⟨hd, q2, e2, hh, ok2, hq2⟩ := one_str (q := q1) (l := headL) ok1 (by decide) (by decide) (by omega)
  have e2' : F__law_one [.rol [.str "letters a", .str "letters ab", .str "letters abc"]] q1 = some (.str hd, q2) := e2
  obtain ⟨many, hmany⟩ : ∃ many, many = n0 + 2 := ⟨_, rfl⟩
  have hm2 : many ≤ 200 := by omega
  obtain ⟨a, q3, e3, ha, ok3, hq3⟩ := draw_nat (q := q2) (n := many) ok2 (by omega) (by omega) (by omega)
  obtain ⟨m, q4, e4, hm, ok4, hq4⟩ := one_nats (q := q3) (l := [1, 50, 120]) ok3 (by simp) (by decide) (by omega)
  have e4' : F__law_one [.rol [.int 1, .int 50, .int 120]] q3 = some (.int (m : Nat), q4) := e4
  have hm12 : 1 ≤ m ∧ m ≤ 120 := by simp at hm; omega
  obtain ⟨r, q5, e5, hr, hr2, d5⟩ := law_wide (q := q4) (m := m) (ds := [some S, some (.obj 1), some i, some (.int (many : Nat)), some (.rol ((linesL hd many).map D.str)), some (.int ((a : Int) + 1)), none, none, none, none, none]) ⟨ok4, by omega⟩ hm12.2 rfl
  have d5l := d5.lo
  have d5h := d5.hi
  obtain ⟨w, q6, e6, hw, ok6, hq6⟩ := one_str (q := q5) (l := wordL) d5.ok (by decide) (by decide) (by omega)
  have e6' : F__law_one [.rol [.str "less", .str "same", .str "more"]] q5 = some (.str w, q6) := e6
  obtain ⟨v, v1, v2, rfl⟩ : ∃ v : Int, -1 ≤ v ∧ v ≤ 1 ∧ w = wordS v := by
    simp only [wordL, List.mem_cons, List.not_mem_nil, or_false] at hw
    rcases hw with rfl | rfl | rfl
    · exact ⟨-1, by decide, by decide, by decide +kernel⟩
    · exact ⟨0, by decide, by decide, by decide +kernel⟩
    · exact ⟨1, by decide, by decide, by decide +kernel⟩
  have hrne : r ≠ [] := fun e => by rw [e] at hr; simp at hr; omega
  obtain ⟨hwl, hrc⟩ := wide_len (v := v) (by omega) hr2
  obtain ⟨W, hW⟩ : ∃ W, W = lineS r v := ⟨_, rfl⟩
  -- what is asked
  have hww := wide_words hrne (fun n hn => by have := hr2 n hn; omega) v1 v2
  have hwf : 10 ∉ tl (lineS r v) := line_free
  obtain ⟨x1, y1, z1⟩ := ask_none (ls := List.replicate many plainL) hh (fun l hl => by rw [List.eq_of_mem_replicate hl]; exact ⟨plain_free, plain_words.1⟩) (List.mem_replicate.mpr ⟨by omega, rfl⟩) (by rw [cost_rep, plain_len]; omega)
  obtain ⟨x2, y2, z2⟩ := ask_none (ls := List.replicate a plainL ++ lineS r v :: List.replicate (many - (a + 1)) plainL) hh (fun l hl => by
    rcases List.mem_append.mp hl with z | z
    · rw [List.eq_of_mem_replicate z]; exact ⟨plain_free, plain_words.1⟩
    · rcases List.mem_cons.mp z with rfl | z
      · exact ⟨hwf, hww.1⟩
      · rw [List.eq_of_mem_replicate z]; exact ⟨plain_free, plain_words.1⟩) (by
      by_cases h0 : a = 0
      · exact List.mem_append_right _ (List.mem_cons_of_mem _ (List.mem_replicate.mpr ⟨by omega, rfl⟩))
      · exact List.mem_append_left _ (List.mem_replicate.mpr ⟨h0, rfl⟩)) (by rw [cost_app, cost_cons, cost_rep, cost_rep, plain_len]; omega)
  rw [show (hd :: (List.replicate a plainL ++ lineS r v :: List.replicate (many - (a + 1)) plainL)) = linesL hd a ++ lineS r v :: List.replicate (many - (a + 1)) plainL from rfl] at y2
  rw [show (hd :: List.replicate many plainL) = linesL hd many from rfl] at y1
  obtain ⟨y3, z3⟩ := ask_wrong (a := many) (b := 0) hh (odd_const "state 1,1 same" (by simp)) hm2 (by decide)
  rw [show List.replicate 0 plainL = [] from rfl] at y3
  have y4 : F__law_parsed [.str (Txt.join "\n" (("letters b" : Str) :: List.replicate many plainL))] = some [.str "line", .int 0] ∧ Shw (.rol [.str "line", .int 0]) := by
    have hp := parse_head (ls := List.replicate many plainL) fun l hl => by rw [List.eq_of_mem_replicate hl]; exact plain_free
    have hc := cost_join_le nl1 (("letters b" : Str) :: List.replicate many plainL)
    rw [cost_cons, cost_rep, plain_len, show (Str.ofString "letters b").length = 9 by decide +kernel] at hc
    have e1 := law_parsed_eq (x := Txt.join "\n" (("letters b" : Str) :: List.replicate many plainL)) (by omega)
    have e2 := sh_out (x := Txt.join "\n" (("letters b" : Str) :: List.replicate many plainL)) (by omega)
    rw [hp] at e1 e2
    exact ⟨e1, e2⟩
  obtain ⟨y4, z4⟩ := y4
  have odds : ∀ o ∈ ([("" : Str), "x", "letters a", "state", "state same", "state 1  2 same", lineS r v ++ " ", lineS r v ++ " 1", mkS (tl (lineS r v)).dropLast, Txt.replace (lineS r v) "state" "states", "state 01 same", " " ++ lineS r v, "state 1111111111 same"] : List Str), Odd o := by
    simp only [List.mem_cons, List.not_mem_nil, or_false, forall_eq_or_imp, forall_eq]
    exact ⟨odd_const _ (by simp), odd_const _ (by simp), odd_const _ (by simp), odd_const _ (by simp), odd_const _ (by simp), odd_const _ (by simp), odd_blank hr2 v1 v2 hwl, odd_one hr2 v1 v2 hwl, odd_cut hr2 v1 v2 hwl, odd_states hr2 v1 v2 hwl, odd_const _ (by simp), odd_ahead hr2 v1 v2 hwl, odd_const _ (by simp)⟩
  refine ⟨[some S, some (.obj 1), some i, some (.int (many : Nat)), some (.rol ((linesL hd many).map D.str)), some (.int ((a : Int) + 1)), some (.rol ((r.map numS).map D.str)), none, some (.str (lineS r v)), some (.rol [.str "", .str "x", .str "letters a", .str "state", .str "state same", .str "state 1  2 same", .str (lineS r v ++ " "), .str (lineS r v ++ " 1"), .str (mkS (tl (lineS r v)).dropLast)]), none], q6, ⟨ok6, by omega, by omega⟩, ?_, _, _, _, _, _, _, _, _, rfl⟩
  have hN : (2 : Int) + (n0 : Int) = (many : Int) := by omega
  have k1 := lines_cost hh (n := many) hm2
  have k2 := lines_cost hh (n := a) (by omega)
  have k3 := cost_rep (many - (a + 1)) plainL
  have k4 := cost_rep many plainL
  rw [plain_len] at k3 k4
  have n1 : (Str.ofString "\n").length = 1 := by decide +kernel
  have n2 : (Str.ofString " ").length = 1 := by decide +kernel
  have n3 : (Str.ofString " 1").length = 2 := by decide +kernel
  have n5 : (Str.ofString "state").length = 5 := by decide +kernel
  have hwS := wordS_len v
  have hlS : Txt.join " " (("state" : Str) :: (r.map numS ++ [wordS v])) = lineS r v := rfl
  have sR := cost_sum (r.map numS)
  have lR := cost_len (r.map numS)
  rw [turn_nm]
  show m_law_L2 [some S, some (.obj 1), some i, none, none, none, none, none, none, none, none] (dkS q) = _
  unfold m_law_L2
  refine sq_set (d := .int (many : Nat)) (m' := dkS q1) (by simp [e1', hN]) ?_
  simp only [List.set_cons_succ, List.set_cons_zero]
  have hi : imAll (List.replicate many (D.str plainL)) = true := by
    have := imAll_strs (List.replicate many plainL)
    rw [List.map_replicate] at this; exact this
  have hmz : many ≤ 16777216 ∧ many + 1 ≤ 16777216 ∧ 1 + many ≤ 16777216 := by omega
  have hmi : (many : Int) ≤ 1000000 := by omega
  have hC : (linesL hd many).map D.str = .str hd :: List.replicate many (D.str plainL) := by unfold linesL; rw [List.map_cons, List.map_replicate]
  refine sq_set (d := .rol ((linesL hd many).map D.str)) (m' := dkS q2) (by
    rw [hC]
    unfold plainL at hi ⊢
    simp [e2', hi, hmz, hmi]) ?_
  simp only [List.set_cons_succ, List.set_cons_zero]
  refine sq_set (d := .int ((a : Int) + 1)) (m' := dkS q3) (by simp [e3, Int.add_comm]) ?_
  simp only [List.set_cons_succ, List.set_cons_zero]
  have hm9 : (-1000000000 : Int) ≤ (m : Int) ∧ (m : Int) ≤ 1000000000 := by omega
  have hrn : (r.map fun n => D.str (numS n)) = (r.map numS).map D.str := by rw [List.map_map]; rfl
  have hri : imAll ((r.map numS).map D.str) = true := imAll_strs _
  rw [hrn] at e5
  have hm16 : m ≤ 16777216 := by omega
  have hrz : (r.map numS).length ≤ 16777216 := by omega
  generalize r.map numS = R at *
  refine sq_set (d := .rol (R.map D.str)) (m' := dkS q5) (by
    simp [e4', hm9, e5, hri, hrz, hm16]) ?_
  simp only [List.set_cons_succ, List.set_cons_zero]
  have hst : strsOf (D.str (Str.ofString "state") :: (R.map D.str ++ [D.str (wordS v)])) = some (("state" : Str) :: (R ++ [wordS v])) := by
    rw [show D.str (Str.ofString "state") :: (R.map D.str ++ [D.str (wordS v)]) = (("state" : Str) :: (R ++ [wordS v])).map D.str by simp]
    exact strsOf_map _
  refine sq_set (d := .str (lineS r v)) (m' := dkS q6) (by
    generalize lineS r v = LS at *
    generalize wordS v = WS at *
    simp (disch := first | omega | simp) [e6', if_leN, n2, n5, hri, hwS, hlS, hst]) ?_
  simp only [List.set_cons_succ, List.set_cons_zero]
  have c1 := lines_to (hd := hd) (n := many) (a := a) (by omega)
  have c2 := lines_from (hd := hd) (n := many) (a := a)
  have c3 := cutN_from (linesL hd many) 1
  rw [show (linesL hd many).drop 1 = List.replicate many plainL from rfl, show (((1 : Nat) : Int)) = 1 from rfl] at c3
  have lA := cost_len (linesL hd a)
  have lB := cost_len (List.replicate (many - (a + 1)) plainL)
  have lC := cost_len (linesL hd many)
  have lD := cost_len (List.replicate many plainL)
  have sA := cost_sum (linesL hd a)
  have sB := cost_sum (List.replicate (many - (a + 1)) plainL)
  have sC := cost_sum (linesL hd many)
  have sD := cost_sum (List.replicate many plainL)
  have turn1 : ∀ o, Odd o → ∀ z, turn (gNm 10) m_law_L1 (.str o) [some S, some (.obj 1), some i, some (.int (many : Nat)), some (.rol ((linesL hd many).map D.str)), some (.int ((a : Int) + 1)), some (.rol (R.map D.str)), none, some (.str (lineS r v)), z, none] (dkS q6) =
      .ok (.nx [some S, some (.obj 1), some i, some (.int (many : Nat)), some (.rol ((linesL hd many).map D.str)), some (.int ((a : Int) + 1)), some (.rol (R.map D.str)), none, some (.str (lineS r v)), z, some (.str o)]) (dkS q6) := fun o ho z => law_L1_turn (hd := hd) hh ho hm2 ha
  generalize List.replicate (many - (a + 1)) plainL = B at *
  generalize List.replicate many plainL = DD at *
  generalize linesL hd a = A at *
  generalize linesL hd many = C at *
  refine sq_no (m' := dkS q6) (by
    simp (disch := first | omega | simp) [if_leN, n1, y1, z1]) ?_
  refine sq_no (m' := dkS q6) (by
    simp (disch := first | omega | simp) [cutD_map, c1, c2, if_leN, n1, y2, z2]) ?_
  have hcut : cutS (lineS r v) none (some (-1)) = mkS (tl (lineS r v)).dropLast := by
    show cutS (mkS (tl (lineS r v))) none (some (-1)) = _
    rw [mkS_cut, cutN_init]
  refine sq_set (d := .rol [.str "", .str "x", .str "letters a", .str "state", .str "state same", .str "state 1  2 same", .str (lineS r v ++ " "), .str (lineS r v ++ " 1"), .str (mkS (tl (lineS r v)).dropLast)]) (m' := dkS q6) (by
    simp (disch := first | omega | simp) [if_leN, n2, n3, hcut]) ?_
  simp only [List.set_cons_succ, List.set_cons_zero]
  have hone : Txt.mul "1" 10 = "1111111111" := by decide +kernel
  have mulok : MulOk "1" 10 := ⟨by decide +kernel, fun _ _ => by decide +kernel, fun _ _ => by decide +kernel⟩
  have hon : (Str.ofString "state ") ++ (Str.ofString "1111111111") ++ (Str.ofString " same") = "state 1111111111 same" := by decide +kernel
  have n6 : (Str.ofString "state ").length = 6 ∧ (Str.ofString "1111111111").length = 10 ∧ (Str.ofString " same").length = 5 ∧ (Str.ofString "state " ++ Str.ofString "1111111111").length = 16 := by decide +kernel
  have n7 : (Str.ofString "states").length = 6 := by decide +kernel
  have n8 : (Str.ofString "state 1,1 same").length = 14 := by decide +kernel
  have n9 : (Str.ofString "letters b").length = 9 := by decide +kernel
  obtain ⟨ds', m', e9, rfl, rfl⟩ := forL_go (g := .tt) (tg := gNm 10) (body := m_law_L1) (k := [10]) (gc := true) (n := 2) (fun ds m => ds = [some S, some (.obj 1), some i, some (.int (many : Nat)), some (.rol (C.map D.str)), some (.int ((a : Int) + 1)), some (.rol (R.map D.str)), none, some (.str (lineS r v)), some (.rol [.str "", .str "x", .str "letters a", .str "state", .str "state same", .str "state 1  2 same", .str (lineS r v ++ " "), .str (lineS r v ++ " 1"), .str (mkS (tl (lineS r v)).dropLast)]), none] ∧ m = dkS q6) (fun _ _ _ => trivial)
    ([("" : Str), "x", "letters a", "state", "state same", "state 1  2 same", lineS r v ++ " ", lineS r v ++ " 1", mkS (tl (lineS r v)).dropLast, Txt.replace (lineS r v) "state" "states", "state 01 same", " " ++ lineS r v, "state 1111111111 same"].map D.str) _ _ ⟨rfl, rfl⟩ (fun d hd ds m hI => by
      obtain ⟨rfl, rfl⟩ := hI
      obtain ⟨o, ho, rfl⟩ := List.mem_map.mp hd
      refine ⟨_, _, turn1 o (odds o ho) _, ?_, ?_⟩
      · rw [turnEnd_no (by simp [dkS, dk])]; rfl
      · rw [turnEnd_no (by simp [dkS, dk])])
  simp only [List.map_cons, List.map_nil] at e9
  have hnil : Str.ofString "" ∈ [Str.ofString ""] := List.mem_singleton.mpr rfl
  have ndl : (tl (lineS r v)).dropLast.length ≤ 1400 := by rw [List.length_dropLast, tl_len]; omega
  refine sq_of (ds' := [some S, some (.obj 1), some i, some (.int (many : Nat)), some (.rol (C.map D.str)), some (.int ((a : Int) + 1)), some (.rol (R.map D.str)), none, some (.str (lineS r v)), some (.rol [.str "", .str "x", .str "letters a", .str "state", .str "state same", .str "state 1  2 same", .str (lineS r v ++ " "), .str (lineS r v ++ " 1"), .str (mkS (tl (lineS r v)).dropLast)]), none]) (m' := dkS q6) (by
    generalize mkS (tl (lineS r v)).dropLast = CU at *
    generalize lineS r v = LS at *
    simp (disch := first | omega | simp) [if_leN, n2, n6, n7, hone, mulok, hon, e9]) ?_
  refine sq_no (m' := dkS q6) (by
    simp (disch := first | omega | simp) [if_leN, n1, n8, y3, z3]) ?_
  have hst2 : strsOf (D.str (Str.ofString "letters b") :: DD.map D.str) = some (("letters b" : Str) :: DD) := strsOf_map (("letters b" : Str) :: DD)
  exact if_f (m' := dkS q6) (by
    simp (disch := first | omega | simp) [cutD_map, c3, if_leN, n1, n9, hst2, y4, z4]) rfl
theorem law_true (ns : List Int) (h : ns.length ≤ 63) : F_law [.rol (ns.map D.int)] = some (.bl true) := by
  obtain ⟨q0, e1, ok0, hz0⟩ := deck_start ns h
  have hD : (1099511627776 : Int) = dkMost := rfl
  obtain ⟨ds1, m1, e2, q1, ok1, l1, rfl, rfl⟩ := forL_inv (g := .tt) (tg := gNm 2) (body := m_law_L2) (k := [2, 3, 4, 5, 6, 8, 9, 10]) (gc := true) (n := 2)
    (fun i ds m => ∃ (q : Dk), DkOk q.1 q.2 ∧ q.2 ≤ 400 * i ∧ ds = [some (.rol (ns.map D.int)), some (.obj 1)] ++ List.replicate 9 none ∧ m = dkS q)
    ((List.range 8).map fun i => D.int (i : Nat)) 0 ([some (.rol (ns.map D.int)), some (.obj 1)] ++ List.replicate 9 none) (dkS q0) (fun _ _ _ _ => trivial) ⟨q0, ok0, by rw [hz0]; decide, rfl, rfl⟩ (fun j d ds m hj hI => by
      obtain ⟨q, okq, hle, rfl, rfl⟩ := hI
      have hj10 : j < 8 := by
        have := (List.getElem?_eq_some_iff.mp hj).1
        simpa using this
      obtain ⟨Sl, q', dr, e, a, b, c, d', e', f, g, h, rfl⟩ := law_turn2 (S := .rol (ns.map D.int)) (i := d) (q := q) ⟨okq, by omega⟩
      have d1 := dr.hi
      refine ⟨_, _, e, q', dr.ok, by omega, ?_, ?_⟩
      · rw [turnEnd_no (by simp [dkS, dk])]; rfl
      · rw [turnEnd_no (by simp [dkS, dk])])
  simp only [List.replicate, List.cons_append, List.nil_append] at e2
  simp [F_law, m_law, runP, e1, e2]
theorem all_mk {P : Program} {w : World} {K : PySem.W.Frag} {h : Heap} {mg : Str → Option Value} {fa f0 f1 f2 f3 f4 f5 f6 f7 f8 f9 f10 f11 f12 f13 A_HEADS A_WORDS C_BadText C_BadComp C_OrderError fi_BadText fi_BadComp : Addr} {t_END t_FIGURES t_LETTERS t_MAX_LETTERS t_MOST_FIGURES t_STATE : Tok} (X : K.In h) (G : h.Ns mainGlobals mg) (hfa : mg "law" = some (.ref fa))
    {od0 an0 od1 an1 od2 an2 od3 an3 od4 an4 od5 an5 od6 an6 od7 an7 od8 an8 od9 an9 od10 an10 od11 an11 od12 an12 od13 an13 : Option Addr} {sl0 sl1 sl2 sl3 sl4 sl5 sl6 sl7 sl8 sl9 sl10 sl11 sl12 sl13 : Array (Option Value)} {oc0 kV0 dc0 pm0 cd0 ct0 oc1 kV1 dc1 pm1 cd1 ct1 oc2 kV2 dc2 pm2 cd2 ct2 oc3 kV3 dc3 pm3 cd3 ct3 oc4 kV4 dc4 pm4 cd4 ct4 oc5 kV5 dc5 pm5 cd5 ct5 oc6 kV6 dc6 pm6 cd6 ct6 oc7 kV7 dc7 pm7 cd7 ct7 oc8 kV8 dc8 pm8 cd8 ct8 oc9 kV9 dc9 pm9 cd9 ct9 oc10 kV10 dc10 pm10 cd10 ct10 oc11 kV11 dc11 pm11 cd11 ct11 oc12 kV12 dc12 pm12 cd12 ct12 oc13 kV13 dc13 pm13 cd13 ct13 : Value}
    {tt_HEADS_0 tt_HEADS_1 tt_HEADS_2 : Tok} {nn_HEADS : Nat} {sl_HEADS : Array (Option Value)}
    {tt_WORDS_0 tt_WORDS_1 tt_WORDS_2 : Tok} {nn_WORDS : Nat} {sl_WORDS : Array (Option Value)}
    {nm_BadText qq_BadText : Str} {N_BadText : Addr} {bs_BadText : List Value} {sn_BadText : List Str} {sub_BadText : List Value} {ab_BadText : Bool} {col_BadText : Option Bool} {dd_BadText od_BadText an_BadText : Option Addr} {m0_BadText m1_BadText m2_BadText m3_BadText m5_BadText : Option Value} {sl_BadText : Array (Option Value)} {oc_BadText kV_BadText dc_BadText pm_BadText cd_BadText ct_BadText : Value}
    {nm_BadComp qq_BadComp : Str} {N_BadComp : Addr} {bs_BadComp : List Value} {sn_BadComp : List Str} {sub_BadComp : List Value} {ab_BadComp : Bool} {col_BadComp : Option Bool} {dd_BadComp od_BadComp an_BadComp : Option Addr} {m0_BadComp m1_BadComp m2_BadComp m3_BadComp m5_BadComp : Option Value} {sl_BadComp : Array (Option Value)} {oc_BadComp kV_BadComp dc_BadComp pm_BadComp cd_BadComp ct_BadComp : Value}
    (ac_OrderError : PySem.W.nsIn K mainGlobals "OrderError" = some (some (.ref C_OrderError)))
    (ty_OrderError : PySem.W.typeIn K (.ref C_OrderError) = some (.type "type"))
    (rd_OrderError : PySem.W.readsIn K C_OrderError (.type "type") = true)
    (sp_OrderError : PySem.W.specialIn K (.ref C_OrderError) "__getattribute__" = some (some (.builtin "type.__getattribute__")))
    (at_OrderError : PySem.W.findCls K (.ref C_OrderError) (.type "type") "__init__" = some (.val (.builtin "ValueError.__init__")))
    (ac_BadText : PySem.W.nsIn K mainGlobals "BadText" = some (some (.ref C_BadText)))
    (lk_BadText : K.lookup C_BadText = some (excClassObj nm_BadText qq_BadText C_BadText N_BadText bs_BadText [.ref C_OrderError, .type "ValueError", .type "Exception", .type "BaseException", .type "object"] true sn_BadText sub_BadText ab_BadText col_BadText dd_BadText m0_BadText m1_BadText m2_BadText m3_BadText m5_BadText "ValueError.__new__"))
    (sa_BadText : PySem.W.findIn K (.ref C_BadText) "__setattr__" = some (some (.builtin "object.__setattr__")))
    (ex_BadText : PySem.W.subIn K (.ref C_BadText) (.type "BaseException") = some true)
    (ty_BadText : PySem.W.typeIn K (.ref C_BadText) = some (.type "type"))
    (kp_BadText : PySem.W.keepIn K (.ref C_BadText) = true)
    (no_BadText : PySem.W.findIn K (.ref C_BadText) "line" = some none)
    (ai_BadText : PySem.W.findIn K (.ref C_BadText) "__init__" = some (some (.ref fi_BadText)))
    (ti_BadText : PySem.W.typeIn K (.ref fi_BadText) = some (.type "function"))
    (li_BadText : K.lookup fi_BadText = some ⟨oc_BadText, od_BadText, .func (PySem.W.fnOf "__init__" "BadText.__init__" (defArgs s_BadText_init) (defBody s_BadText_init) (defScope s_BadText_init) .none kV_BadText dc_BadText pm_BadText an_BadText cd_BadText ct_BadText), sl_BadText⟩)
    (ci_BadText : PySem.W.codeIn K cd_BadText "BadText.__init__" = true)
    (ki_BadText : PySem.W.keepIn K (.ref fi_BadText) = true)
    (ga_BadText : PySem.W.findIn K (.ref C_BadText) "__getattribute__" = some (some (.builtin "BaseException.__getattribute__")))
    (gg_BadText : PySem.W.findIn K (.ref C_BadText) "__getattr__" = some none)
    (hd_BadText : PySem.W.hasDictIn K C_BadText = true)
    (ic_BadText : PySem.W.isClsIn K C_BadText = true)
    (ac_BadComp : PySem.W.nsIn K mainGlobals "BadComp" = some (some (.ref C_BadComp)))
    (lk_BadComp : K.lookup C_BadComp = some (excClassObj nm_BadComp qq_BadComp C_BadComp N_BadComp bs_BadComp [.ref C_OrderError, .type "ValueError", .type "Exception", .type "BaseException", .type "object"] true sn_BadComp sub_BadComp ab_BadComp col_BadComp dd_BadComp m0_BadComp m1_BadComp m2_BadComp m3_BadComp m5_BadComp "ValueError.__new__"))
    (sa_BadComp : PySem.W.findIn K (.ref C_BadComp) "__setattr__" = some (some (.builtin "object.__setattr__")))
    (ex_BadComp : PySem.W.subIn K (.ref C_BadComp) (.type "BaseException") = some true)
    (ty_BadComp : PySem.W.typeIn K (.ref C_BadComp) = some (.type "type"))
    (kp_BadComp : PySem.W.keepIn K (.ref C_BadComp) = true)
    (no_BadComp : PySem.W.findIn K (.ref C_BadComp) "error" = some none)
    (ai_BadComp : PySem.W.findIn K (.ref C_BadComp) "__init__" = some (some (.ref fi_BadComp)))
    (ti_BadComp : PySem.W.typeIn K (.ref fi_BadComp) = some (.type "function"))
    (li_BadComp : K.lookup fi_BadComp = some ⟨oc_BadComp, od_BadComp, .func (PySem.W.fnOf "__init__" "BadComp.__init__" (defArgs s_BadComp_init) (defBody s_BadComp_init) (defScope s_BadComp_init) .none kV_BadComp dc_BadComp pm_BadComp an_BadComp cd_BadComp ct_BadComp), sl_BadComp⟩)
    (ci_BadComp : PySem.W.codeIn K cd_BadComp "BadComp.__init__" = true)
    (ki_BadComp : PySem.W.keepIn K (.ref fi_BadComp) = true)
    (ga_BadComp : PySem.W.findIn K (.ref C_BadComp) "__getattribute__" = some (some (.builtin "BaseException.__getattribute__")))
    (gg_BadComp : PySem.W.findIn K (.ref C_BadComp) "__getattr__" = some none)
    (hd_BadComp : PySem.W.hasDictIn K C_BadComp = true)
    (ic_BadComp : PySem.W.isClsIn K C_BadComp = true)
    (sb_BadText_BadText : PySem.W.subIn K (.ref C_BadText) (.ref C_BadText) = some true)
    (sb_BadText_BadComp : PySem.W.subIn K (.ref C_BadText) (.ref C_BadComp) = some false)
    (sb_BadComp_BadText : PySem.W.subIn K (.ref C_BadComp) (.ref C_BadText) = some false)
    (sb_BadComp_BadComp : PySem.W.subIn K (.ref C_BadComp) (.ref C_BadComp) = some true)
    (a0 : PySem.W.nsIn K mainGlobals "is_integer" = some (some (.ref f0)))
    (l0 : K.lookup f0 = some ⟨oc0, od0, .func (PySem.W.fnOf "is_integer" "is_integer" (defArgs s_is_integer) (defBody s_is_integer) (defScope s_is_integer) .none kV0 dc0 pm0 an0 cd0 ct0), sl0⟩)
    (c0 : PySem.W.codeIn K cd0 "is_integer" = true)
    (k0 : PySem.W.keepIn K (.ref f0) = true)
    (a1 : PySem.W.nsIn K mainGlobals "signs_of" = some (some (.ref f1)))
    (l1 : K.lookup f1 = some ⟨oc1, od1, .func (PySem.W.fnOf "signs_of" "signs_of" (defArgs s_signs_of) (defBody s_signs_of) (defScope s_signs_of) .none kV1 dc1 pm1 an1 cd1 ct1), sl1⟩)
    (c1 : PySem.W.codeIn K cd1 "signs_of" = true)
    (k1 : PySem.W.keepIn K (.ref f1) = true)
    (a2 : PySem.W.nsIn K mainGlobals "columns" = some (some (.ref f2)))
    (l2 : K.lookup f2 = some ⟨oc2, od2, .func (PySem.W.fnOf "columns" "columns" (defArgs s_columns) (defBody s_columns) (defScope s_columns) .none kV2 dc2 pm2 an2 cd2 ct2), sl2⟩)
    (c2 : PySem.W.codeIn K cd2 "columns" = true)
    (k2 : PySem.W.keepIn K (.ref f2) = true)
    (a3 : PySem.W.nsIn K mainGlobals "is_row" = some (some (.ref f3)))
    (l3 : K.lookup f3 = some ⟨oc3, od3, .func (PySem.W.fnOf "is_row" "is_row" (defArgs s_is_row) (defBody s_is_row) (defScope s_is_row) .none kV3 dc3 pm3 an3 cd3 ct3), sl3⟩)
    (c3 : PySem.W.codeIn K cd3 "is_row" = true)
    (k3 : PySem.W.keepIn K (.ref f3) = true)
    (a4 : PySem.W.nsIn K mainGlobals "are_verdicts" = some (some (.ref f4)))
    (l4 : K.lookup f4 = some ⟨oc4, od4, .func (PySem.W.fnOf "are_verdicts" "are_verdicts" (defArgs s_are_verdicts) (defBody s_are_verdicts) (defScope s_are_verdicts) .none kV4 dc4 pm4 an4 cd4 ct4), sl4⟩)
    (c4 : PySem.W.codeIn K cd4 "are_verdicts" = true)
    (k4 : PySem.W.keepIn K (.ref f4) = true)
    (a5 : PySem.W.nsIn K mainGlobals "comp_error" = some (some (.ref f5)))
    (l5 : K.lookup f5 = some ⟨oc5, od5, .func (PySem.W.fnOf "comp_error" "comp_error" (defArgs s_comp_error) (defBody s_comp_error) (defScope s_comp_error) .none kV5 dc5 pm5 an5 cd5 ct5), sl5⟩)
    (c5 : PySem.W.codeIn K cd5 "comp_error" = true)
    (k5 : PySem.W.keepIn K (.ref f5) = true)
    (a6 : PySem.W.nsIn K mainGlobals "are_figures" = some (some (.ref f6)))
    (l6 : K.lookup f6 = some ⟨oc6, od6, .func (PySem.W.fnOf "are_figures" "are_figures" (defArgs s_are_figures) (defBody s_are_figures) (defScope s_are_figures) .none kV6 dc6 pm6 an6 cd6 ct6), sl6⟩)
    (c6 : PySem.W.codeIn K cd6 "are_figures" = true)
    (k6 : PySem.W.keepIn K (.ref f6) = true)
    (a7 : PySem.W.nsIn K mainGlobals "is_state_line" = some (some (.ref f7)))
    (l7 : K.lookup f7 = some ⟨oc7, od7, .func (PySem.W.fnOf "is_state_line" "is_state_line" (defArgs s_is_state_line) (defBody s_is_state_line) (defScope s_is_state_line) .none kV7 dc7 pm7 an7 cd7 ct7), sl7⟩)
    (c7 : PySem.W.codeIn K cd7 "is_state_line" = true)
    (k7 : PySem.W.keepIn K (.ref f7) = true)
    (a8 : PySem.W.nsIn K mainGlobals "parse_comp" = some (some (.ref f8)))
    (l8 : K.lookup f8 = some ⟨oc8, od8, .func (PySem.W.fnOf "parse_comp" "parse_comp" (defArgs s_parse_comp) (defBody s_parse_comp) (defScope s_parse_comp) .none kV8 dc8 pm8 an8 cd8 ct8), sl8⟩)
    (c8 : PySem.W.codeIn K cd8 "parse_comp" = true)
    (k8 : PySem.W.keepIn K (.ref f8) = true)
    (a9 : PySem.W.nsIn K mainGlobals "_law_deck" = some (some (.ref f9)))
    (l9 : K.lookup f9 = some ⟨oc9, od9, .func (PySem.W.fnOf "_law_deck" "_law_deck" (defArgs s__law_deck) (defBody s__law_deck) (defScope s__law_deck) .none kV9 dc9 pm9 an9 cd9 ct9), sl9⟩)
    (c9 : PySem.W.codeIn K cd9 "_law_deck" = true)
    (k9 : PySem.W.keepIn K (.ref f9) = true)
    (a10 : PySem.W.nsIn K mainGlobals "_law_draw" = some (some (.ref f10)))
    (l10 : K.lookup f10 = some ⟨oc10, od10, .func (PySem.W.fnOf "_law_draw" "_law_draw" (defArgs s__law_draw) (defBody s__law_draw) (defScope s__law_draw) .none kV10 dc10 pm10 an10 cd10 ct10), sl10⟩)
    (c10 : PySem.W.codeIn K cd10 "_law_draw" = true)
    (k10 : PySem.W.keepIn K (.ref f10) = true)
    (a11 : PySem.W.nsIn K mainGlobals "_law_one" = some (some (.ref f11)))
    (l11 : K.lookup f11 = some ⟨oc11, od11, .func (PySem.W.fnOf "_law_one" "_law_one" (defArgs s__law_one) (defBody s__law_one) (defScope s__law_one) .none kV11 dc11 pm11 an11 cd11 ct11), sl11⟩)
    (c11 : PySem.W.codeIn K cd11 "_law_one" = true)
    (k11 : PySem.W.keepIn K (.ref f11) = true)
    (a12 : PySem.W.nsIn K mainGlobals "_law_parsed" = some (some (.ref f12)))
    (l12 : K.lookup f12 = some ⟨oc12, od12, .func (PySem.W.fnOf "_law_parsed" "_law_parsed" (defArgs s__law_parsed) (defBody s__law_parsed) (defScope s__law_parsed) .none kV12 dc12 pm12 an12 cd12 ct12), sl12⟩)
    (c12 : PySem.W.codeIn K cd12 "_law_parsed" = true)
    (k12 : PySem.W.keepIn K (.ref f12) = true)
    (a13 : PySem.W.nsIn K mainGlobals "law" = some (some (.ref f13)))
    (l13 : K.lookup f13 = some ⟨oc13, od13, .func (PySem.W.fnOf "law" "law" (defArgs s_law) (defBody s_law) (defScope s_law) .none kV13 dc13 pm13 an13 cd13 ct13), sl13⟩)
    (c13 : PySem.W.codeIn K cd13 "law" = true)
    (k13 : PySem.W.keepIn K (.ref f13) = true)
    (g_END : PySem.W.nsIn K mainGlobals "END" = some (some (.str "." t_END)))
    (g_FIGURES : PySem.W.nsIn K mainGlobals "FIGURES" = some (some (.str "0123456789" t_FIGURES)))
    (g_LETTERS : PySem.W.nsIn K mainGlobals "LETTERS" = some (some (.str "abc" t_LETTERS)))
    (g_MAX_LETTERS : PySem.W.nsIn K mainGlobals "MAX_LETTERS" = some (some (.int 3 t_MAX_LETTERS)))
    (g_MOST_FIGURES : PySem.W.nsIn K mainGlobals "MOST_FIGURES" = some (some (.int 9 t_MOST_FIGURES)))
    (g_STATE : PySem.W.nsIn K mainGlobals "STATE" = some (some (.str "state" t_STATE)))
    (g_abs : PySem.W.nsIn K mainGlobals "abs" = some none)
    (g_bool : PySem.W.nsIn K mainGlobals "bool" = some none)
    (g_enumerate : PySem.W.nsIn K mainGlobals "enumerate" = some none)
    (g_int : PySem.W.nsIn K mainGlobals "int" = some none)
    (g_isinstance : PySem.W.nsIn K mainGlobals "isinstance" = some none)
    (g_len : PySem.W.nsIn K mainGlobals "len" = some none)
    (g_range : PySem.W.nsIn K mainGlobals "range" = some none)
    (g_repr : PySem.W.nsIn K mainGlobals "repr" = some none)
    (g_str : PySem.W.nsIn K mainGlobals "str" = some none)
    (g_tuple : PySem.W.nsIn K mainGlobals "tuple" = some none)
    (g_HEADS : PySem.W.nsIn K mainGlobals "HEADS" = some (some (.ref A_HEADS)))
    (kl_HEADS : K.lookup A_HEADS = some ⟨.type "tuple", none, .seq #[.str "letters a" tt_HEADS_0, .str "letters ab" tt_HEADS_1, .str "letters abc" tt_HEADS_2] nn_HEADS, sl_HEADS⟩)
    (g_WORDS : PySem.W.nsIn K mainGlobals "WORDS" = some (some (.ref A_WORDS)))
    (kl_WORDS : K.lookup A_WORDS = some ⟨.type "tuple", none, .seq #[.str "less" tt_WORDS_0, .str "same" tt_WORDS_1, .str "more" tt_WORDS_2] nn_WORDS, sl_WORDS⟩)
    : ∃ fd : FuncData, (∀ (s : Shared) (v : Value), BindsTo s fd ⟨[v], []⟩ [("_law_script", v)]) ∧ ∀ base : Heap, K.In base → base.Ns mainGlobals mg → FnG P w K mg base 7 fa fd ["_law_script"] (spOf K v_law) := by
  have e := hfa.symm.trans (PySem.W.mg_of X G a13)
  cases e
  have T : Txt K mg t_END t_FIGURES t_LETTERS t_MAX_LETTERS t_MOST_FIGURES t_STATE A_HEADS A_WORDS := ⟨PySem.W.mg_of X G g_END, PySem.W.mg_of X G g_FIGURES, PySem.W.mg_of X G g_LETTERS, PySem.W.mg_of X G g_MAX_LETTERS, PySem.W.mg_of X G g_MOST_FIGURES, PySem.W.mg_of X G g_STATE, PySem.W.mg_none_of X G g_abs, PySem.W.mg_none_of X G g_bool, PySem.W.mg_none_of X G g_enumerate, PySem.W.mg_none_of X G g_int, PySem.W.mg_none_of X G g_isinstance, PySem.W.mg_none_of X G g_len, PySem.W.mg_none_of X G g_range, PySem.W.mg_none_of X G g_repr, PySem.W.mg_none_of X G g_str, PySem.W.mg_none_of X G g_tuple, PySem.W.mg_of X G g_HEADS, ⟨_, _, _, kl_HEADS, rfl, rfl, rfl, by show 3 ≤ sizeLine; decide, .cons ⟨_, rfl⟩ (.cons ⟨_, rfl⟩ (.cons ⟨_, rfl⟩ (.nil)))⟩, PySem.W.mg_of X G g_WORDS, ⟨_, _, _, kl_WORDS, rfl, rfl, rfl, by show 3 ≤ sizeLine; decide, .cons ⟨_, rfl⟩ (.cons ⟨_, rfl⟩ (.cons ⟨_, rfl⟩ (.nil)))⟩⟩
  have F0 := fun_mk (st := s_is_integer) l0 c0 k0
  have F1 := fun_mk (st := s_signs_of) l1 c1 k1
  have F2 := fun_mk (st := s_columns) l2 c2 k2
  have F3 := fun_mk (st := s_is_row) l3 c3 k3
  have F4 := fun_mk (st := s_are_verdicts) l4 c4 k4
  have F5 := fun_mk (st := s_comp_error) l5 c5 k5
  have F6 := fun_mk (st := s_are_figures) l6 c6 k6
  have F7 := fun_mk (st := s_is_state_line) l7 c7 k7
  have F8 := fun_mk (st := s_parse_comp) l8 c8 k8
  have F9 := fun_mk (st := s__law_deck) l9 c9 k9
  have F10 := fun_mk (st := s__law_draw) l10 c10 k10
  have F11 := fun_mk (st := s__law_one) l11 c11 k11
  have F12 := fun_mk (st := s__law_parsed) l12 c12 k12
  have F13 := fun_mk (st := s_law) l13 c13 k13
  refine ⟨_, fun s v => BindsTo.of_eq (fd := PySem.W.fnOf "law" "law" (defArgs s_law) (defBody s_law) (defScope s_law) .none kV13 dc13 pm13 an13 cd13 ct13) rfl, fun base _ _ => ?_⟩
  have FI_BadText := fun_mk (st := s_BadText_init) li_BadText ci_BadText ki_BadText
  have E_BadText : ErrC P w K mg base 1 "BadText" "line" := ⟨C_BadText, fi_BadText, _, PySem.W.mg_of X G ac_BadText, ⟨⟨nm_BadText, qq_BadText, N_BadText, bs_BadText, _, sn_BadText, sub_BadText, ab_BadText, col_BadText, dd_BadText, m0_BadText, m1_BadText, m2_BadText, m3_BadText, m5_BadText, lk_BadText, rfl⟩, sa_BadText, ex_BadText, ty_BadText, kp_BadText⟩, ai_BadText, ti_BadText, ok_BadText_init FI_BadText (PySem.W.mg_of X G ac_OrderError) ⟨ty_OrderError, rd_OrderError, sp_OrderError, at_OrderError⟩, FI_BadText.binds (ps := ["self", "line"]) (fun _ _ _ _ _ _ us hl => match us, hl with | [_, _], _ => rfl), no_BadText⟩
  have H_BadText : HdC K mg "BadText" "line" := ⟨C_BadText, PySem.W.mg_of X G ac_BadText, ⟨ga_BadText, gg_BadText, ex_BadText, hd_BadText⟩, no_BadText⟩
  have FI_BadComp := fun_mk (st := s_BadComp_init) li_BadComp ci_BadComp ki_BadComp
  have E_BadComp : ErrC P w K mg base 1 "BadComp" "error" := ⟨C_BadComp, fi_BadComp, _, PySem.W.mg_of X G ac_BadComp, ⟨⟨nm_BadComp, qq_BadComp, N_BadComp, bs_BadComp, _, sn_BadComp, sub_BadComp, ab_BadComp, col_BadComp, dd_BadComp, m0_BadComp, m1_BadComp, m2_BadComp, m3_BadComp, m5_BadComp, lk_BadComp, rfl⟩, sa_BadComp, ex_BadComp, ty_BadComp, kp_BadComp⟩, ai_BadComp, ti_BadComp, ok_BadComp_init FI_BadComp (PySem.W.mg_of X G ac_OrderError) ⟨ty_OrderError, rd_OrderError, sp_OrderError, at_OrderError⟩, FI_BadComp.binds (ps := ["self", "error"]) (fun _ _ _ _ _ _ us hl => match us, hl with | [_, _], _ => rfl), no_BadComp⟩
  have H_BadComp : HdC K mg "BadComp" "error" := ⟨C_BadComp, PySem.W.mg_of X G ac_BadComp, ⟨ga_BadComp, gg_BadComp, ex_BadComp, hd_BadComp⟩, no_BadComp⟩
  have D_is_integer : Dc P w K mg base 1 "is_integer" ["value", "least", "most"] v_is_integer := dc_mk F0 (ok_is_integer F0 T) (PySem.W.mg_of X G a0) (fun _ _ _ _ _ _ us hl => match us, hl with | [_, _, _], _ => rfl)
  have D_signs_of : Dc P w K mg base 1 "signs_of" ["letters"] v_signs_of := dc_mk F1 (ok_signs_of F1 T) (PySem.W.mg_of X G a1) (fun _ _ _ _ _ _ us hl => match us, hl with | [_], _ => rfl)
  have D_columns : Dc P w K mg base 2 "columns" ["letters"] v_columns := dc_mk F2 (ok_columns F2 T D_signs_of) (PySem.W.mg_of X G a2) (fun _ _ _ _ _ _ us hl => match us, hl with | [_], _ => rfl)
  have D_is_row : Dc P w K mg base 3 "is_row" ["value", "letters", "states"] v_is_row := dc_mk F3 (ok_is_row F3 T D_columns D_is_integer) (PySem.W.mg_of X G a3) (fun _ _ _ _ _ _ us hl => match us, hl with | [_, _, _], _ => rfl)
  have D_are_verdicts : Dc P w K mg base 2 "are_verdicts" ["value", "states"] v_are_verdicts := dc_mk F4 (ok_are_verdicts F4 T D_is_integer) (PySem.W.mg_of X G a4) (fun _ _ _ _ _ _ us hl => match us, hl with | [_, _], _ => rfl)
  have D_comp_error : Dc P w K mg base 4 "comp_error" ["value"] v_comp_error := dc_mk F5 (ok_comp_error F5 T D_is_integer D_are_verdicts D_is_row) (PySem.W.mg_of X G a5) (fun _ _ _ _ _ _ us hl => match us, hl with | [_], _ => rfl)
  have D_are_figures : Dc P w K mg base 1 "are_figures" ["text", "most"] v_are_figures := dc_mk F6 (ok_are_figures F6 T) (PySem.W.mg_of X G a6) (fun _ _ _ _ _ _ us hl => match us, hl with | [_, _], _ => rfl)
  have D_is_state_line : Dc P w K mg base 2 "is_state_line" ["line"] v_is_state_line := dc_mk F7 (ok_is_state_line F7 T D_are_figures) (PySem.W.mg_of X G a7) (fun _ _ _ _ _ _ us hl => match us, hl with | [_], _ => rfl)
  have D_parse_comp : DcX P w K mg base 5 "parse_comp" ["value"] F_parse_comp := dcx_mk F8 (ok_parse_comp F8 T D_comp_error D_is_state_line E_BadText E_BadComp) (PySem.W.mg_of X G a8) (fun _ _ _ _ _ _ us hl => match us, hl with | [_], _ => rfl)
  have D__law_deck : Dc P w K mg base 1 "_law_deck" ["_law_script"] v__law_deck := dc_mk F9 (ok__law_deck F9 T) (PySem.W.mg_of X G a9) (fun _ _ _ _ _ _ us hl => match us, hl with | [_], _ => rfl)
  have D__law_draw : Dc P w K mg base 1 "_law_draw" ["_law_deck_here", "_law_many"] v__law_draw := dc_mk F10 (ok__law_draw F10 T) (PySem.W.mg_of X G a10) (fun _ _ _ _ _ _ us hl => match us, hl with | [_, _], _ => rfl)
  have D__law_one : Dc P w K mg base 2 "_law_one" ["_law_deck_here", "_law_items"] v__law_one := dc_mk F11 (ok__law_one F11 T D__law_draw) (PySem.W.mg_of X G a11) (fun _ _ _ _ _ _ us hl => match us, hl with | [_, _], _ => rfl)
  have D__law_parsed : Dc P w K mg base 6 "_law_parsed" ["_law_text"] v__law_parsed := dc_mk F12 (ok__law_parsed F12 T D_parse_comp H_BadText H_BadComp (exmP_cons (exmP1_cons (PySem.W.mg_of X G ac_BadText) (PySem.W.mg_of X G ac_BadText) (exm_two ex_BadText ic_BadText ty_BadText sb_BadText_BadText) (exmP1_cons (PySem.W.mg_of X G ac_BadText) (PySem.W.mg_of X G ac_BadComp) (exm_two ex_BadComp ic_BadComp ty_BadComp sb_BadText_BadComp) exmP1_nil)) (exmP_cons (exmP1_cons (PySem.W.mg_of X G ac_BadComp) (PySem.W.mg_of X G ac_BadText) (exm_two ex_BadText ic_BadText ty_BadText sb_BadComp_BadText) (exmP1_cons (PySem.W.mg_of X G ac_BadComp) (PySem.W.mg_of X G ac_BadComp) (exm_two ex_BadComp ic_BadComp ty_BadComp sb_BadComp_BadComp) exmP1_nil)) exmP_nil))) (PySem.W.mg_of X G a12) (fun _ _ _ _ _ _ us hl => match us, hl with | [_], _ => rfl)
  exact ok_law F13 T D__law_deck D__law_draw D__law_one D__law_parsed
end My
open PySem PySem.W PyProof.Rows
set_option maxHeartbeats 0 in
theorem PySem.Challenge.cw_surelyorders_k17_long_texts_holds : PySem.Challenge.rw_surelyorders_k17_long_texts.Holds := by
  w_on; o_law; k_head; (case hw => w_witness2)
  k_fill
  refine VL.walkG (l := PySem.Challenge.rw_surelyorders_k17_long_texts) (n := 63) (k := 7) (x := "_law_script") (sp := fun w => VL.spOf _ My.v_law) rfl (by decide) rfl ⟨rfl, by decide, by decide⟩ (fun w h Y => PySem.W.kIn_of Y) ?F (fun _ _ a ns hl hS => VM.lawP_sp My.law_true hl hS)
  case F =>
    intro w mg fa h KX G hmg
    refine' My.all_mk KX G hmg ?ac_OrderError ?ty_OrderError ?rd_OrderError ?sp_OrderError ?at_OrderError ?ac_BadText ?lk_BadText ?sa_BadText ?ex_BadText ?ty_BadText ?kp_BadText ?no_BadText ?ai_BadText ?ti_BadText ?li_BadText ?ci_BadText ?ki_BadText ?ga_BadText ?gg_BadText ?hd_BadText ?ic_BadText ?ac_BadComp ?lk_BadComp ?sa_BadComp ?ex_BadComp ?ty_BadComp ?kp_BadComp ?no_BadComp ?ai_BadComp ?ti_BadComp ?li_BadComp ?ci_BadComp ?ki_BadComp ?ga_BadComp ?gg_BadComp ?hd_BadComp ?ic_BadComp ?sb_BadText_BadText ?sb_BadText_BadComp ?sb_BadComp_BadText ?sb_BadComp_BadComp ?a0 ?l0 ?c0 ?k0 ?a1 ?l1 ?c1 ?k1 ?a2 ?l2 ?c2 ?k2 ?a3 ?l3 ?c3 ?k3 ?a4 ?l4 ?c4 ?k4 ?a5 ?l5 ?c5 ?k5 ?a6 ?l6 ?c6 ?k6 ?a7 ?l7 ?c7 ?k7 ?a8 ?l8 ?c8 ?k8 ?a9 ?l9 ?c9 ?k9 ?a10 ?l10 ?c10 ?k10 ?a11 ?l11 ?c11 ?k11 ?a12 ?l12 ?c12 ?k12 ?a13 ?l13 ?c13 ?k13 ?g_END ?g_FIGURES ?g_LETTERS ?g_MAX_LETTERS ?g_MOST_FIGURES ?g_STATE ?g_abs ?g_bool ?g_enumerate ?g_int ?g_isinstance ?g_len ?g_range ?g_repr ?g_str ?g_tuple ?g_HEADS ?kl_HEADS ?g_WORDS ?kl_WORDS
    (case ac_OrderError => k_is)
    (case ty_OrderError => k_is)
    (case rd_OrderError => k_is)
    (case sp_OrderError => k_is)
    (case at_OrderError => k_is)
    (case ac_BadText => k_is)
    (case lk_BadText => k_is)
    (case sa_BadText => k_is)
    (case ex_BadText => k_is)
    (case ty_BadText => k_is)
    (case kp_BadText => k_is)
    (case no_BadText => k_is)
    (case ai_BadText => k_is)
    (case ti_BadText => k_is)
    (case li_BadText => k_is)
    (case ci_BadText => k_is)
    (case ki_BadText => k_is)
    (case ga_BadText => k_is)
    (case gg_BadText => k_is)
    (case hd_BadText => k_is)
    (case ic_BadText => k_is)
    (case ac_BadComp => k_is)
    (case lk_BadComp => k_is)
    (case sa_BadComp => k_is)
    (case ex_BadComp => k_is)
    (case ty_BadComp => k_is)
    (case kp_BadComp => k_is)
    (case no_BadComp => k_is)
    (case ai_BadComp => k_is)
    (case ti_BadComp => k_is)
    (case li_BadComp => k_is)
    (case ci_BadComp => k_is)
    (case ki_BadComp => k_is)
    (case ga_BadComp => k_is)
    (case gg_BadComp => k_is)
    (case hd_BadComp => k_is)
    (case ic_BadComp => k_is)
    (case sb_BadText_BadText => first | rfl | k_is)
    (case sb_BadText_BadComp => first | rfl | k_is)
    (case sb_BadComp_BadText => first | rfl | k_is)
    (case sb_BadComp_BadComp => first | rfl | k_is)
    (case a0 => k_is)
    (case l0 => k_is)
    (case c0 => k_is)
    (case k0 => k_is)
    (case a1 => k_is)
    (case l1 => k_is)
    (case c1 => k_is)
    (case k1 => k_is)
    (case a2 => k_is)
    (case l2 => k_is)
    (case c2 => k_is)
    (case k2 => k_is)
    (case a3 => k_is)
    (case l3 => k_is)
    (case c3 => k_is)
    (case k3 => k_is)
    (case a4 => k_is)
    (case l4 => k_is)
    (case c4 => k_is)
    (case k4 => k_is)
    (case a5 => k_is)
    (case l5 => k_is)
    (case c5 => k_is)
    (case k5 => k_is)
    (case a6 => k_is)
    (case l6 => k_is)
    (case c6 => k_is)
    (case k6 => k_is)
    (case a7 => k_is)
    (case l7 => k_is)
    (case c7 => k_is)
    (case k7 => k_is)
    (case a8 => k_is)
    (case l8 => k_is)
    (case c8 => k_is)
    (case k8 => k_is)
    (case a9 => k_is)
    (case l9 => k_is)
    (case c9 => k_is)
    (case k9 => k_is)
    (case a10 => k_is)
    (case l10 => k_is)
    (case c10 => k_is)
    (case k10 => k_is)
    (case a11 => k_is)
    (case l11 => k_is)
    (case c11 => k_is)
    (case k11 => k_is)
    (case a12 => k_is)
    (case l12 => k_is)
    (case c12 => k_is)
    (case k12 => k_is)
    (case a13 => k_is)
    (case l13 => k_is)
    (case c13 => k_is)
    (case k13 => k_is)
    (case g_END => k_is)
    (case g_FIGURES => k_is)
    (case g_LETTERS => k_is)
    (case g_MAX_LETTERS => k_is)
    (case g_MOST_FIGURES => k_is)
    (case g_STATE => k_is)
    (case g_abs => k_is)
    (case g_bool => k_is)
    (case g_enumerate => k_is)
    (case g_int => k_is)
    (case g_isinstance => k_is)
    (case g_len => k_is)
    (case g_range => k_is)
    (case g_repr => k_is)
    (case g_str => k_is)
    (case g_tuple => k_is)
    (case g_HEADS => k_is)
    (case kl_HEADS => k_is)
    (case g_WORDS => k_is)
    (case kl_WORDS => k_is)


