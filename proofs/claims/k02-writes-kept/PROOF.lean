import PyProof.Rows.All
import Wide.All
import OpenK.AllK
import Wide.FinOn
import HandS.ForMost
import HandS.ForExc
import HandS.Exc
import HandS.ExcOwn
import HandS.ExcInit
import HandS.ExcField
import HandS.ExcIs
import KE.KExcIs
import HandS.TryOnly
import HandS.IsInst
import HandS.Slots
import HandS.SlotsOwn
import HandS.Defaults
import HandS.MakeKw
import HandS.MakeKwOnly
import HandS.CallSlots
import HandS.Walk
import HandS.Evl
import HandS.HeadWalk
import HandS.HeadHook4
import KE.KStateDown
import HandS.Head0
import HandS.Head1
import HandS.Head2
import HandS.HeadEnd
import PySem.Challenge.RW_linesharing_k02_writes_kept
set_option Elab.async false
set_option linter.all false
set_option maxRecDepth 100000
set_option maxHeartbeats 4000000
namespace DL
open PySem PySem.Spec PyProof.Rows L2

/-! ### data -/
inductive D where
  | non | bl (b : Bool) | int (i : Int) | str (x : Str) | ty (n : String) | adr (a : Addr)
  | tup (ds : List D) | lst (ds : List D) | lsf (ds : List D) | slo (C : Addr) (ds : List D)
  | exc (a C dd : Addr) (ks : List Str) (ds : List D)

mutual
def Rep (K : PySem.W.Frag) (G : Hp) : D → V → Prop
  | .non, v => v = .non
  | .bl b, v => v = .bl b
  | .int i, v => v = .int i
  | .str x, v => v = .str x
  | .ty n, v => v = .ty n
  | .adr a, v => v = .ref a
  | .tup ds, v => ∃ (a : Addr) (vs : List V), v = .ref a ∧ SqT K G a vs ∧ Reps K G ds vs
  | .lst ds, v => ∃ (a : Addr) (vs : List V), v = .ref a ∧ G a = some (.lst vs) ∧ Reps K G ds vs
  | .lsf ds, v => ∃ (a : Addr) (vs : List V), v = .ref a ∧ SqL K G a vs ∧ Reps K G ds vs
  | .slo C ds, v => ∃ (a dx : Addr) (vs : List V), v = .ref a ∧ SlX.Slt G a C dx (vs.map some) ∧ Reps K G ds vs
  | .exc a _ dd ks ds, v => v = .ref a ∧ ∃ vs : List V, G dd = some (.xd (ks.zip vs)) ∧ Reps K G ds vs
def Reps (K : PySem.W.Frag) (G : Hp) : List D → List V → Prop
  | [], vs => vs = []
  | d :: ds, vs => ∃ (v : V) (r : List V), vs = v :: r ∧ Rep K G d v ∧ Reps K G ds r
end

section
variable {K : PySem.W.Frag} {G G' H H' : Hp}
theorem sqT_mono {a : Addr} {xs : List V} (e : Same G H) (h : SqT K G a xs) : SqT K H a xs := Evl.ex_t e h
theorem sqL_mono {a : Addr} {xs : List V} (e : Same G H) (h : SqL K G a xs) : SqL K H a xs := e.seq h
theorem slt_mono {a C dx : Addr} {vs : List (Option V)} (e : Same G H) (h : SlX.Slt G a C dx vs) : SlX.Slt H a C dx vs := by
  rcases h with ⟨h1, h2⟩ | ⟨h1, h2⟩
  · exact .inl ⟨e _ _ h1, h2⟩
  · exact .inr ⟨e _ _ h1, e _ _ h2⟩
mutual
theorem Rep.mono (e : Same G H) : ∀ {d : D} {v : V}, Rep K G d v → Rep K H d v
  | .non, _, h => h
  | .bl _, _, h => h
  | .int _, _, h => h
  | .str _, _, h => h
  | .ty _, _, h => h
  | .adr _, _, h => h
  | .tup _, _, ⟨a, vs, h1, h2, h3⟩ => ⟨a, vs, h1, sqT_mono e h2, Reps.mono e h3⟩
  | .lst _, _, ⟨a, vs, h1, h2, h3⟩ => ⟨a, vs, h1, e _ _ h2, Reps.mono e h3⟩
  | .lsf _, _, ⟨a, vs, h1, h2, h3⟩ => ⟨a, vs, h1, sqL_mono e h2, Reps.mono e h3⟩
  | .slo _ _, _, ⟨a, dx, vs, h1, h2, h3⟩ => ⟨a, dx, vs, h1, slt_mono e h2, Reps.mono e h3⟩
  | .exc _ _ _ _ _, _, ⟨h1, vs, h2, h3⟩ => ⟨h1, vs, e _ _ h2, Reps.mono e h3⟩
theorem Reps.mono (e : Same G H) : ∀ {ds : List D} {vs : List V}, Reps K G ds vs → Reps K H ds vs
  | [], _, h => h
  | _ :: _, _, ⟨v, r, h1, h2, h3⟩ => ⟨v, r, h1, Rep.mono e h2, Reps.mono e h3⟩
end
theorem Reps.length : ∀ {ds : List D} {vs : List V}, Reps K G ds vs → vs.length = ds.length
  | [], _, h => by
    have h' : _ = [] := h
    subst h'
    rfl
  | _ :: _, _, ⟨v, r, h1, _, h3⟩ => by rw [h1, List.length_cons, List.length_cons, Reps.length h3]
theorem Reps.get : ∀ {ds : List D} {vs : List V} {i : Nat} {d : D}, Reps K G ds vs → ds[i]? = some d → ∃ v, vs[i]? = some v ∧ Rep K G d v
  | [], _, _, _, _, e => by simp at e
  | d :: ds, _, 0, d', ⟨v, r, h1, h2, h3⟩, e => by
    have e2 : d = d' := by simpa using e
    subst e2
    exact ⟨v, by rw [h1]; rfl, h2⟩
  | d :: ds, _, i + 1, d', ⟨v, r, h1, h2, h3⟩, e => by
    obtain ⟨w, e1, e2⟩ := Reps.get (i := i) h3 (by simpa using e)
    exact ⟨w, by rw [h1]; simpa using e1, e2⟩
theorem Reps.nil : Reps K G [] [] := rfl
theorem Reps.cons {d : D} {v : V} {ds : List D} {vs : List V} (h : Rep K G d v) (t : Reps K G ds vs) : Reps K G (d :: ds) (v :: vs) := ⟨v, vs, rfl, h, t⟩
theorem Reps.append : ∀ {ds es : List D} {vs ws : List V}, Reps K G ds vs → Reps K G es ws → Reps K G (ds ++ es) (vs ++ ws)
  | [], _, _, _, h, t => by rw [show _ = [] from h]; exact t
  | d :: ds, es, _, ws, ⟨v, r, h1, h2, h3⟩, t => by rw [h1]; exact ⟨v, r ++ ws, rfl, h2, Reps.append h3 t⟩
theorem Reps.one {d : D} {v : V} (h : Rep K G d v) : Reps K G [d] [v] := .cons h .nil
theorem Reps.set : ∀ {ds : List D} {vs : List V} {i : Nat} {d : D} {v : V}, Reps K G ds vs → Rep K G d v → Reps K G (ds.set i d) (vs.set i v)
  | [], _, _, _, _, h, _ => by rw [show _ = [] from h]; exact rfl
  | _ :: _, _, 0, d, v, ⟨w, r, h1, h2, h3⟩, q => by rw [h1]; exact ⟨v, r, rfl, q, h3⟩
  | _ :: _, _, i + 1, d, v, ⟨w, r, h1, h2, h3⟩, q => by rw [h1]; exact ⟨w, r.set i v, rfl, h2, Reps.set h3 q⟩

/-! ### the slots by data -/
abbrev DEnv := List (Option D)
def EnvR (K : PySem.W.Frag) (G : Hp) (δ : DEnv) (σ : L2.St) : Prop := σ.length = δ.length ∧ ∀ (i : Nat) (d : D), δ[i]? = some (some d) → ∃ v, σ[i]? = some (some v) ∧ Rep K G d v
theorem EnvR.mono {δ : DEnv} {σ : L2.St} (e : Same G H) (h : EnvR K G δ σ) : EnvR K H δ σ := ⟨h.1, fun i d hd => by
  obtain ⟨v, h1, h2⟩ := h.2 i d hd
  exact ⟨v, h1, h2.mono e⟩⟩
theorem EnvR.set {δ : DEnv} {σ : L2.St} {i : Nat} {d : D} {v : V} (h : EnvR K G δ σ) (r : Rep K G d v) : EnvR K G (δ.set i (some d)) (σ.set i (some v)) := by
  refine ⟨by simp [h.1], fun j e he => ?_⟩
  by_cases hj : i = j
  · subst hj
    have hl : i < δ.length := by
      have := (List.getElem?_eq_some_iff.mp he).1
      simpa using this
    rw [List.getElem?_set_self hl] at he
    have e2 : d = e := by simpa using he
    subst e2
    exact ⟨v, List.getElem?_set_self (by rw [h.1]; exact hl), r⟩
  · rw [List.getElem?_set_ne hj] at he
    obtain ⟨w, h1, h2⟩ := h.2 j e he
    exact ⟨w, by rw [List.getElem?_set_ne hj]; exact h1, h2⟩
theorem EnvR.drop {δ : DEnv} {σ : L2.St} {i : Nat} (h : EnvR K G δ σ) (o : Option V) : EnvR K G (δ.set i none) (σ.set i o) := by
  refine ⟨by simp [h.1], fun j e he => ?_⟩
  by_cases hj : i = j
  · subst hj
    rw [List.getElem?_set] at he
    simp at he
  · rw [List.getElem?_set_ne hj] at he
    obtain ⟨w, h1, h2⟩ := h.2 j e he
    exact ⟨w, by rw [List.getElem?_set_ne hj]; exact h1, h2⟩
def dstart (N : List Str) (ds : List D) : DEnv := ds.map some ++ List.replicate (N.length - ds.length) none
theorem EnvR.start {N : List Str} {ds : List D} {vs : List V} (r : Reps K G ds vs) : EnvR K G (dstart N ds) (L2.start N vs) := by
  have hl := r.length
  refine ⟨by unfold L2.start dstart; simp [hl], fun i d hd => ?_⟩
  unfold dstart at hd
  by_cases hi : i < ds.length
  · rw [List.getElem?_append_left (by simpa using hi), List.getElem?_map] at hd
    have hd2 : ds[i]? = some d := by
      cases e : ds[i]? with
      | none => rw [e] at hd; cases hd
      | some x => rw [e] at hd; simpa using hd
    obtain ⟨v, h1, h2⟩ := r.get hd2
    refine ⟨v, ?_, h2⟩
    unfold L2.start
    rw [List.getElem?_append_left (by rw [List.length_map, hl]; exact hi), List.getElem?_map, h1]
    rfl
  · rw [List.getElem?_append_right (by simpa using hi), List.getElem?_replicate] at hd
    split at hd <;> cases hd
end

/-! ### what is owned: F its addresses -/
structure Iv (K : PySem.W.Frag) where
  F : Addr → Prop
  φ : Hp → Hp → Prop
  loc : ∀ G G' H H', Same G G' → (∀ a, F a → H' a = H a) → φ G H → φ G' H'
  dom : ∀ G H, φ G H → ∀ a, F a → H a ≠ none
/-- it holds: G what is known for good, H what stands -/
structure Hd {K : PySem.W.Frag} (I : Iv K) (G H : Hp) : Prop where
  ph : I.φ G H
  fr : ∀ a, I.F a → G a = none
def iEmp (K : PySem.W.Frag) : Iv K := ⟨fun _ => False, fun _ _ => True, fun _ _ _ _ _ _ _ => trivial, fun _ _ _ _ h => h.elim⟩
/-- two regions apart -/
def Iv.and {K : PySem.W.Frag} (I J : Iv K) : Iv K where
  F := fun a => I.F a ∨ J.F a
  φ := fun G H => I.φ G H ∧ J.φ G H ∧ ∀ a, ¬ (I.F a ∧ J.F a)
  loc := fun G G' H H' s k h => ⟨I.loc G G' H H' s (fun a ha => k a (.inl ha)) h.1, J.loc G G' H H' s (fun a ha => k a (.inr ha)) h.2.1, h.2.2⟩
  dom := fun G H h a ha => ha.elim (I.dom G H h.1 a) (J.dom G H h.2.1 a)
/-- the object at p is o, as data: a thing that may change -/
def iObj (K : PySem.W.Frag) (p : Addr) (R : Hp → HO → Prop) (mono : ∀ G G' o, Same G G' → R G o → R G' o) : Iv K where
  F := fun a => a = p
  φ := fun G H => ∃ o, H p = some o ∧ R G o
  loc := fun G G' H H' s k ⟨o, h1, h2⟩ => ⟨o, by rw [k p rfl]; exact h1, mono G G' o s h2⟩
  dom := fun G H ⟨o, h1, _⟩ a ha => by rw [show a = p from ha, h1]; simp
/-- a list that may change -/
def iLst (K : PySem.W.Frag) (p : Addr) (ds : List D) : Iv K := iObj K p (fun G o => ∃ vs, o = .lst vs ∧ Reps K G ds vs) fun _ _ _ s ⟨vs, h1, h2⟩ => ⟨vs, h1, h2.mono s⟩
section
variable {K : PySem.W.Frag} {I J : Iv K} {G G' H H' : Hp}
theorem Hd.emp : Hd (iEmp K) G H := ⟨trivial, fun _ h => h.elim⟩
theorem Hd.left (h : Hd (I.and J) G H) : Hd I G H := ⟨h.ph.1, fun a ha => h.fr a (.inl ha)⟩
theorem Hd.right (h : Hd (I.and J) G H) : Hd J G H := ⟨h.ph.2.1, fun a ha => h.fr a (.inr ha)⟩
theorem Hd.apart (h : Hd (I.and J) G H) : ∀ a, ¬ (I.F a ∧ J.F a) := h.ph.2.2
theorem Hd.mk2 (h1 : Hd I G H) (h2 : Hd J G H) (d : ∀ a, ¬ (I.F a ∧ J.F a)) : Hd (I.and J) G H := ⟨⟨h1.ph, h2.ph, d⟩, fun a ha => ha.elim (h1.fr a) (h2.fr a)⟩
theorem Hd.dom (h : Hd I G H) {a : Addr} (ha : I.F a) : H a ≠ none := I.dom G H h.ph a ha
/-- a new object, to be kept for good -/
theorem Hd.keep (h : Hd I G H) {q : Addr} {o : HO} (hq : H q = none) (sG : Same G H) : Hd I (upd G q o) (upd H q o) := by
  have hg : G q = none := sG.free hq
  have nq : ∀ a, I.F a → a ≠ q := fun a ha e => h.dom ha (by rw [e]; exact hq)
  exact ⟨I.loc G _ H _ (Evl.Ex.new hg) (fun a ha => upd_ne (nq a ha)) h.ph, fun a ha => by rw [upd_ne (nq a ha)]; exact h.fr a ha⟩
/-- a new object, that may change -/
theorem Hd.newp (h : Hd I G H) {q : Addr} {o : HO} (hq : H q = none) : Hd I G (upd H q o) := by
  have nq : ∀ a, I.F a → a ≠ q := fun a ha e => h.dom ha (by rw [e]; exact hq)
  exact ⟨I.loc G G H _ (Same.refl G) (fun a ha => upd_ne (nq a ha)) h.ph, h.fr⟩
/-- something outside is changed -/
theorem Hd.chg (h : Hd I G H) {q : Addr} {o : HO} (hq : ¬ I.F q) : Hd I G (upd H q o) :=
  ⟨I.loc G G H _ (Same.refl G) (fun a ha => upd_ne fun e => hq (by rw [← e]; exact ha)) h.ph, h.fr⟩
theorem same_upd {q : Addr} {o : HO} (s : Same G H) (hq : G q = none) : Same G (upd H q o) := fun a u e => by
  rw [upd_ne (ne_of_none e hq)]
  exact s a u e
theorem same_upd2 {q : Addr} {o : HO} (s : Same G H) : Same (upd G q o) (upd H q o) := fun a u e => by
  by_cases h : a = q
  · rw [h, upd_same] at e
    rw [h, upd_same]
    exact e
  · rw [upd_ne h] at e
    rw [upd_ne h]
    exact s a u e
theorem same_freeze {q : Addr} {o : HO} (s : Same G H) (hq : H q = some o) : Same (upd G q o) H := fun a u e => by
  by_cases h : a = q
  · rw [h, upd_same] at e
    rw [h, hq]
    exact e
  · rw [upd_ne h] at e
    exact s a u e
end

/-! ### a region within others -/
inductive Rc (K : PySem.W.Frag) where
  | here
  | l (c : Rc K) (J : Iv K)
  | r (J : Iv K) (c : Rc K)
def Rc.fill {K : PySem.W.Frag} : Rc K → Iv K → Iv K
  | .here, I => I
  | .l c J, I => (c.fill I).and J
  | .r J c, I => J.and (c.fill I)
/-- I says I' -/
structure Sub {K : PySem.W.Frag} (I I' : Iv K) : Prop where
  F : ∀ a, I'.F a ↔ I.F a
  φ : ∀ G H, I.φ G H → I'.φ G H
section
variable {K : PySem.W.Frag} {I I' J : Iv K} {G G' H H' : Hp}
theorem Hd.sub (s : Sub I I') (h : Hd I G H) : Hd I' G H := ⟨s.φ _ _ h.ph, fun a ha => h.fr a ((s.F a).mp ha)⟩
theorem Sub.refl : Sub I I := ⟨fun _ => Iff.rfl, fun _ _ h => h⟩
theorem Sub.andL (s : Sub I I') : Sub (I.and J) (I'.and J) := ⟨fun a => ⟨fun h => h.imp (s.F a).mp id, fun h => h.imp (s.F a).mpr id⟩, fun G H h => ⟨s.φ _ _ h.1, h.2.1, fun a ha => h.2.2 a ⟨(s.F a).mp ha.1, ha.2⟩⟩⟩
theorem Sub.andR (s : Sub I I') : Sub (J.and I) (J.and I') := ⟨fun a => ⟨fun h => h.imp id (s.F a).mp, fun h => h.imp id (s.F a).mpr⟩, fun G H h => ⟨h.1, s.φ _ _ h.2.1, fun a ha => h.2.2 a ⟨ha.1, (s.F a).mp ha.2⟩⟩⟩
theorem Sub.fill (s : Sub I I') : ∀ c : Rc K, Sub (c.fill I) (c.fill I')
  | .here => s
  | .l c J => (Sub.fill s c).andL
  | .r J c => (Sub.fill s c).andR
theorem Hd.inner : ∀ {c : Rc K}, Hd (c.fill I) G H → Hd I G H
  | .here, h => h
  | .l _ _, h => Hd.inner h.left
  | .r _ _, h => Hd.inner h.right
theorem fill_F (e : ∀ a, I'.F a ↔ I.F a) : ∀ (c : Rc K) (a : Addr), (c.fill I').F a ↔ (c.fill I).F a
  | .here, a => e a
  | .l c J, a => ⟨fun h => h.imp (fill_F e c a).mp id, fun h => h.imp (fill_F e c a).mpr id⟩
  | .r J c, a => ⟨fun h => h.imp id (fill_F e c a).mp, fun h => h.imp id (fill_F e c a).mpr⟩
theorem fill_in : ∀ (c : Rc K) (a : Addr), I.F a → (c.fill I).F a
  | .here, _, h => h
  | .l c _, a, h => .inl (fill_in c a h)
  | .r _ c, a, h => .inr (fill_in c a h)
/-- the inner region is changed -/
theorem Hd.change (e : ∀ a, I'.F a ↔ I.F a) (k : ∀ a, ¬ I.F a → H' a = H a) (h' : Hd I' G H') : ∀ {c : Rc K}, Hd (c.fill I) G H → Hd (c.fill I') G H'
  | .here, _ => h'
  | .l c J, h => by
    have q := Hd.change e k h' h.left
    refine Hd.mk2 q ⟨J.loc G G H H' (Same.refl G) (fun a ha => k a fun z => h.apart a ⟨fill_in c a z, ha⟩) h.right.ph, h.right.fr⟩ fun a ha => h.apart a ⟨(fill_F e c a).mp ha.1, ha.2⟩
  | .r J c, h => by
    have q := Hd.change e k h' h.right
    refine Hd.mk2 ⟨J.loc G G H H' (Same.refl G) (fun a ha => k a fun z => h.apart a ⟨ha, fill_in c a z⟩) h.left.ph, h.left.fr⟩ q fun a ha => h.apart a ⟨ha.1, (fill_F e c a).mp ha.2⟩
/-- .. opened -/
theorem Hd.opens {α : Type} {f : α → Iv K} (e : ∀ x a, (f x).F a ↔ I.F a) (o : ∀ G H, I.φ G H → ∃ x, (f x).φ G H) : ∀ {c : Rc K}, Hd (c.fill I) G H → ∃ x, Hd (c.fill (f x)) G H
  | .here, h => by
    obtain ⟨x, hx⟩ := o _ _ h.ph
    exact ⟨x, hx, fun a ha => h.fr a ((e x a).mp ha)⟩
  | .l c J, h => by
    obtain ⟨x, hx⟩ := Hd.opens e o h.left
    exact ⟨x, Hd.mk2 hx h.right fun a ha => h.apart a ⟨(fill_F (e x) c a).mp ha.1, ha.2⟩⟩
  | .r J c, h => by
    obtain ⟨x, hx⟩ := Hd.opens e o h.right
    exact ⟨x, Hd.mk2 h.left hx fun a ha => h.apart a ⟨ha.1, (fill_F (e x) c a).mp ha.2⟩⟩
end
end DL
set_option Elab.async false
set_option linter.all false
set_option maxRecDepth 100000
set_option maxHeartbeats 4000000
namespace DL
open PySem PySem.Spec PyProof.Rows L2

/-! ### what an expression does -/
structure wpE (X : Cx) (e : Expr) (σ : L2.St) (H : Hp) (Q : VK) : Prop where
  run : ∀ (pins : List (Addr × Obj)) (s : Shared), Inv X pins σ H s → wpAny (model X.prog X.w) X.A (eval e X.env) (EP X pins σ Q) X.xe s
structure wpT (X : Cx) (e : Expr) (σ : L2.St) (H : Hp) (Q : Bool → Hp → Prop) : Prop where
  run : ∀ (pins : List (Addr × Obj)) (s : Shared), Inv X pins σ H s → wpAny (model X.prog X.w) X.A (isTrue e X.env (eval e X.env)) (TP X pins σ Q) X.xe s
structure wpW (X : Cx) (e : Expr) (σ : L2.St) (H : Hp) (Q : Bool → Hp → Prop) : Prop where
  run : ∀ (whole : Sem Value) (pins : List (Addr × Obj)) (s : Shared), Inv X pins σ H s → wpAny (model X.prog X.w) X.A (isTrue e X.env whole) (TP X pins σ Q) X.xe s
structure wpA (X : Cx) (es : List Expr) (σ : L2.St) (H : Hp) (Q : List V → Hp → Prop) : Prop where
  run : ∀ (pos : Pos) (pins : List (Addr × Obj)) (s : Shared), Inv X pins σ H s → wpAny (model X.prog X.w) X.A (spliced (backTo pos (starEach es X.env))) (AP X pins σ Q) X.xe s
structure wpS (X : Cx) (st : Stmt) (D : Ends) (σ : L2.St) (H : Hp) : Prop where
  run : ∀ (pins : List (Addr × Obj)) (s : Shared), Inv X pins σ H s → wpAny (model X.prog X.w) X.A (exec st X.env) (SP X pins D) X.xe s
structure wpB (X : Cx) (sts : List Stmt) (D : Ends) (σ : L2.St) (H : Hp) : Prop where
  run : ∀ (pins : List (Addr × Obj)) (s : Shared), Inv X pins σ H s → wpAny (model X.prog X.w) X.A (execs sts X.env) (SP X pins D) X.xe s
section
variable {X : Cx} {e : Expr} {es : List Expr} {st : Stmt} {sts : List Stmt} {te : TE} {tt : TT} {ta : TA} {ts : TS} {σ : L2.St} {H : Hp}
theorem peC : PE X e (wpE X e) := ⟨fun pins s σ H Q I h => h.run pins s I⟩
theorem ptC : PT X e (wpT X e) := ⟨fun pins s σ H Q I h => h.run pins s I⟩
theorem pwC : PW X e (wpW X e) := ⟨fun whole pins s σ H Q I h => h.run whole pins s I⟩
theorem paC : PA X es (wpA X es) := ⟨fun pos pins s σ H Q I h => h.run pos pins s I⟩
theorem psC : PS X st (wpS X st) := ⟨fun pins s σ H D I h => h.run pins s I⟩
theorem pssC : PSs X sts (wpB X sts) := ⟨fun pins s σ H D I h => h.run pins s I⟩
theorem PE.wp (h : PE X e te) {Q : VK} (q : te σ H Q) : wpE X e σ H Q := ⟨fun pins s I => h.run pins s σ H Q I q⟩
theorem PT.wp (h : PT X e tt) {Q : Bool → Hp → Prop} (q : tt σ H Q) : wpT X e σ H Q := ⟨fun pins s I => h.run pins s σ H Q I q⟩
theorem PW.wp (h : PW X e tt) {Q : Bool → Hp → Prop} (q : tt σ H Q) : wpW X e σ H Q := ⟨fun w pins s I => h.run w pins s σ H Q I q⟩
theorem PA.wp (h : PA X es ta) {Q : List V → Hp → Prop} (q : ta σ H Q) : wpA X es σ H Q := ⟨fun pos pins s I => h.run pos pins s σ H Q I q⟩
theorem PS.wp (h : PS X st ts) {D : Ends} (q : ts D σ H) : wpS X st D σ H := ⟨fun pins s I => h.run pins s σ H D I q⟩
theorem PSs.wp (h : PSs X sts ts) {D : Ends} (q : ts D σ H) : wpB X sts D σ H := ⟨fun pins s I => h.run pins s σ H D I q⟩
end

/-! ### what follows, by data -/
section
variable {K : PySem.W.Frag}
def Kv (K : PySem.W.Frag) (Q : VK) (G : Hp) (P : D → Iv K → Prop) : Prop := ∀ (v : V) (d : D) (G' H' : Hp) (I' : Iv K), Same G G' → Same G' H' → Hd I' G' H' → Rep K G' d v → P d I' → Q v H'
def Kb (K : PySem.W.Frag) (Q : Bool → Hp → Prop) (G : Hp) (P : Bool → Iv K → Prop) : Prop := ∀ (b : Bool) (G' H' : Hp) (I' : Iv K), Same G G' → Same G' H' → Hd I' G' H' → P b I' → Q b H'
def Ka (K : PySem.W.Frag) (Q : List V → Hp → Prop) (G : Hp) (P : List D → Iv K → Prop) : Prop := ∀ (vs : List V) (ds : List D) (G' H' : Hp) (I' : Iv K), Same G G' → Same G' H' → Hd I' G' H' → Reps K G' ds vs → P ds I' → Q vs H'
theorem Kv.mono {Q : VK} {G G1 : Hp} {P : D → Iv K → Prop} (s : Same G G1) (h : Kv K Q G P) : Kv K Q G1 P := fun v d G' H' I' s1 => h v d G' H' I' (s.trans s1)
theorem Kb.mono {Q : Bool → Hp → Prop} {G G1 : Hp} {P : Bool → Iv K → Prop} (s : Same G G1) (h : Kb K Q G P) : Kb K Q G1 P := fun b G' H' I' s1 => h b G' H' I' (s.trans s1)
theorem Ka.mono {Q : List V → Hp → Prop} {G G1 : Hp} {P : List D → Iv K → Prop} (s : Same G G1) (h : Ka K Q G P) : Ka K Q G1 P := fun v d G' H' I' s1 => h v d G' H' I' (s.trans s1)
/-- a two-place operation by data -/
def Op2 (K : PySem.W.Frag) (r : R2) (x y : D) (I : Iv K) (P : D → Iv K → Prop) : Prop := ∀ (G H : Hp) (v w : V) (Q : VK), Same G H → Hd I G H → Rep K G x v → Rep K G y w → Kv K Q G P → r v w H Q
def Op1 (K : PySem.W.Frag) (r : V → Hp → VK → Prop) (x : D) (I : Iv K) (P : D → Iv K → Prop) : Prop := ∀ (G H : Hp) (v : V) (Q : VK), Same G H → Hd I G H → Rep K G x v → Kv K Q G P → r v H Q
def OpN (K : PySem.W.Frag) (r : List V → Hp → VK → Prop) (xs : List D) (I : Iv K) (P : D → Iv K → Prop) : Prop := ∀ (G H : Hp) (vs : List V) (Q : VK), Same G H → Hd I G H → Reps K G xs vs → Kv K Q G P → r vs H Q
end
/-- what is wanted of an exception: its class, its fields -/
abbrev Rx (K : PySem.W.Frag) := Addr → List (Str × D) → Iv K → Prop
def FRep (K : PySem.W.Frag) (G : Hp) : List (Str × D) → List (Str × V) → Prop
  | [], l => l = []
  | p :: ps, l => ∃ v r, l = (p.1, v) :: r ∧ Rep K G p.2 v ∧ FRep K G ps r
def Kx (K : PySem.W.Frag) (W : WX) (σ : L2.St) (G : Hp) (R : Rx K) : Prop := ∀ (C dd : Addr) (fs : List (Str × D)) (l : List (Str × V)) (G' H' : Hp) (I' : Iv K), Same G G' → Same G' H' → Hd I' G' H' → FRep K G' fs l → G' dd = some (.xd l) → R C fs I' → W (.ref C) (some dd) σ H'
theorem Kx.mono {K : PySem.W.Frag} {W : WX} {σ : L2.St} {G G1 : Hp} {R : Rx K} (s : Same G G1) (h : Kx K W σ G R) : Kx K W σ G1 R := fun C dd fs l G' H' I' s1 => h C dd fs l G' H' I' (s.trans s1)
def EvX (X : Cx) (W : WX) (R : Rx X.K) (e : Expr) (δ : DEnv) (I : Iv X.K) (P : D → Iv X.K → Prop) : Prop := ∀ (σ : L2.St) (G H : Hp) (Q : VK), EnvR X.K G δ σ → Same G H → Hd I G H → Kx X.K W σ G R → Kv X.K Q G P → wpE X e σ H Q
def EvT (X : Cx) (W : WX) (R : Rx X.K) (e : Expr) (δ : DEnv) (I : Iv X.K) (P : Bool → Iv X.K → Prop) : Prop := ∀ (σ : L2.St) (G H : Hp) (Q : Bool → Hp → Prop), EnvR X.K G δ σ → Same G H → Hd I G H → Kx X.K W σ G R → Kb X.K Q G P → wpT X e σ H Q
def EvW (X : Cx) (W : WX) (R : Rx X.K) (e : Expr) (δ : DEnv) (I : Iv X.K) (P : Bool → Iv X.K → Prop) : Prop := ∀ (σ : L2.St) (G H : Hp) (Q : Bool → Hp → Prop), EnvR X.K G δ σ → Same G H → Hd I G H → Kx X.K W σ G R → Kb X.K Q G P → wpW X e σ H Q
def EvA (X : Cx) (W : WX) (R : Rx X.K) (es : List Expr) (δ : DEnv) (I : Iv X.K) (P : List D → Iv X.K → Prop) : Prop := ∀ (σ : L2.St) (G H : Hp) (Q : List V → Hp → Prop), EnvR X.K G δ σ → Same G H → Hd I G H → Kx X.K W σ G R → Ka X.K Q G P → wpA X es σ H Q
/-- a value for good -/
def PV (X : Cx) (I : Iv X.K) (e : Expr) (δ : DEnv) (d : D) : Prop := ∀ (W : WX) (R : Rx X.K) (P : D → Iv X.K → Prop), P d I → EvX X W R e δ I P
def PVT (X : Cx) (I : Iv X.K) (e : Expr) (δ : DEnv) (b : Bool) : Prop := ∀ (W : WX) (R : Rx X.K) (P : Bool → Iv X.K → Prop), P b I → EvT X W R e δ I P
def PVW (X : Cx) (I : Iv X.K) (e : Expr) (δ : DEnv) (b : Bool) : Prop := ∀ (W : WX) (R : Rx X.K) (P : Bool → Iv X.K → Prop), P b I → EvW X W R e δ I P
def PVA (X : Cx) (I : Iv X.K) (es : List Expr) (δ : DEnv) (ds : List D) : Prop := ∀ (W : WX) (R : Rx X.K) (P : List D → Iv X.K → Prop), P ds I → EvA X W R es δ I P
def P2 (K : PySem.W.Frag) (I : Iv K) (r : R2) (x y z : D) : Prop := ∀ (P : D → Iv K → Prop), P z I → Op2 K r x y I P
def P1 (K : PySem.W.Frag) (I : Iv K) (r : V → Hp → VK → Prop) (x z : D) : Prop := ∀ (P : D → Iv K → Prop), P z I → Op1 K r x I P
def PN (K : PySem.W.Frag) (I : Iv K) (r : List V → Hp → VK → Prop) (xs : List D) (z : D) : Prop := ∀ (P : D → Iv K → Prop), P z I → OpN K r xs I P

section
variable {X : Cx} {a b c e : Expr} {es rest : List Expr} {δ : DEnv} {I : Iv X.K} {W : WX} {R : Rx X.K} {P P' : D → Iv X.K → Prop} {PB PB' : Bool → Iv X.K → Prop} {PA' : List D → Iv X.K → Prop} {pos p : Pos} {d x y z : D} {x' : Str}
theorem EvX.imp (h : EvX X W R e δ I P) (k : ∀ d I', P d I' → P' d I') : EvX X W R e δ I P' := fun σ G H Q hE s hI qx q => h σ G H Q hE s hI qx fun v d G' H' I' s1 s2 h1 r p => q v d G' H' I' s1 s2 h1 r (k d I' p)
theorem EvT.imp (h : EvT X W R e δ I PB) (k : ∀ d I', PB d I' → PB' d I') : EvT X W R e δ I PB' := fun σ G H Q hE s hI qx q => h σ G H Q hE s hI qx fun d G' H' I' s1 s2 h1 p => q d G' H' I' s1 s2 h1 (k d I' p)
theorem PV.is (h : PV X I e δ d) (q : d = z) : PV X I e δ z := q ▸ h
theorem PVT.is {b c : Bool} (h : PVT X I e δ b) (q : b = c) : PVT X I e δ c := q ▸ h
theorem P2.is {K : PySem.W.Frag} {I : Iv K} {r : R2} {x y z z' : D} (h : P2 K I r x y z) (q : z = z') : P2 K I r x y z' := q ▸ h
/-- a name, a constant -/
theorem pv_t {v : V} (h : PE X e (tC v)) (hr : ∀ G, Rep X.K G d v) : PV X I e δ d := fun W R P p σ G H Q _ s hI _ q => PE.wp h (q v d G H I (Same.refl G) s hI (hr G) p)
theorem pv_int {i : Int} {j} : PV X I (.Constant (.int i) j pos) δ (.int i) := pv_t pe_int fun _ => rfl
theorem pv_str {w : Str} {j} : PV X I (.Constant (.str w) j pos) δ (.str w) := pv_t pe_str fun _ => rfl
theorem pv_bl {k : Bool} {j} : PV X I (.Constant (.bool k) j pos) δ (.bl k) := pv_t pe_bl fun _ => rfl
theorem pv_non {j} : PV X I (.Constant .none j pos) δ .non := pv_t pe_non fun _ => rfl
theorem pv_v (i : Nat) (hd : δ[i]? = some (some d) := by rfl) (hN : X.N[i]? = some x' := by rfl) (hv : Vis X.env.scope x' := by first | exact Or.inl rfl | exact Or.inr (Or.inl rfl) | exact Or.inr (Or.inr rfl)) (hdb : (x' == ("__debug__" : Str)) = false := by decide)
    (hcd : (x' == ("__classdict__" : Str)) = false := by decide) : PV X I (.Name x' pos) δ d := fun W R P p σ G H Q hE s hI qx q => by
  obtain ⟨v, h1, h2⟩ := hE.2 i d hd
  exact PE.wp (pe_var hN hv hdb hcd) ⟨v, h1, q v d G H I (Same.refl G) s hI h2 p⟩
/-- what the module's name holds -/
theorem pv_g {v : V} {u : Value} (hm : X.mg x' = some u) (r : RelV v u) (hr : ∀ G, Rep X.K G d v) (hg : Gl X x' := by rfl) (hdb : (x' == ("__debug__" : Str)) = false := by decide) : PV X I (.Name x' pos) δ d := pv_t (pe_glob hg hm r hdb) hr
theorem pv_gty {n : String} (hm : X.mg x' = none) (hv : bootBuiltins x' = some (.type n) := by decide +kernel) (hg : Gl X x' := by rfl) (hn : x' ≠ "__name__" := by decide) (hdb : (x' == ("__debug__" : Str)) = false := by decide) : PV X I (.Name x' pos) δ (.ty n) :=
  pv_t (v := .ty n) (pe_bltn hg hm hv rfl hn hdb) fun _ => rfl
/-- operators -/
theorem ev_op {op : Operator} {r : R2} (ho : OpR X (binaryOp op) r) (h : EvX X W R a δ I fun x I1 => EvX X W R b δ I1 fun y I2 => Op2 X.K r x y I2 P) : EvX X W R (.BinOp a op b pos) δ I P := fun σ G H Q hE s hI qx q =>
  PE.wp (pe_op ho peC peC) (h σ G H _ hE s hI qx fun v x G1 H1 I1 s1 t1 h1 r1 k1 => k1 σ G1 H1 _ (hE.mono s1) t1 h1 (qx.mono s1) fun w y G2 H2 I2 s2 t2 h2 r2 k2 => k2 G2 H2 v w Q t2 h2 (r1.mono s2) r2 (q.mono (s1.trans s2)))
theorem ev_cmp {op : CmpOp} {r : R2} (ho : OpR X (compareOp op) r) (h : EvX X W R a δ I fun x I1 => EvX X W R b δ I1 fun y I2 => Op2 X.K r x y I2 P) (hm : behindInMarks op b = false := by first | exact nomark _ | rfl) : EvX X W R (.Compare a [op] [b] pos) δ I P := fun σ G H Q hE s hI qx q =>
  PE.wp (pe_cmpR ho peC peC hm) (h σ G H _ hE s hI qx fun v x G1 H1 I1 s1 t1 h1 r1 k1 => k1 σ G1 H1 _ (hE.mono s1) t1 h1 (qx.mono s1) fun w y G2 H2 I2 s2 t2 h2 r2 k2 => k2 G2 H2 v w Q t2 h2 (r1.mono s2) r2 (q.mono (s1.trans s2)))
theorem et_cmp {op : CmpOp} {r : R2} (ho : OpR X (compareOp op) r) (h : EvX X W R a δ I fun x I1 => EvX X W R b δ I1 fun y I2 => Op2 X.K r x y I2 fun z I3 => ∃ k, z = .bl k ∧ PB k I3) (hm : behindInMarks op b = false := by first | exact nomark _ | rfl) : EvT X W R (.Compare a [op] [b] pos) δ I PB := fun σ G H Q hE s hI qx q =>
  PT.wp (pt_cmpR ho peC peC hm) (h σ G H _ hE s hI qx fun v x G1 H1 I1 s1 t1 h1 r1 k1 => k1 σ G1 H1 _ (hE.mono s1) t1 h1 (qx.mono s1) fun w y G2 H2 I2 s2 t2 h2 r2 k2 => k2 G2 H2 v w _ t2 h2 (r1.mono s2) r2 fun z d G3 H3 I3 s3 t3 h3 r3 ⟨k, e, p⟩ => ⟨k, by subst e; exact r3, q k G3 H3 I3 ((s1.trans s2).trans s3) t3 h3 p⟩)
theorem pv_op {op : Operator} {r : R2} (ho : OpR X (binaryOp op) r) (ha : PV X I a δ x) (hb : PV X I b δ y) (h : P2 X.K I r x y z) : PV X I (.BinOp a op b pos) δ z := fun W R P p => ev_op ho (ha W R _ (hb W R _ (h P p)))
theorem pv_cmp {op : CmpOp} {r : R2} (ho : OpR X (compareOp op) r) (ha : PV X I a δ x) (hb : PV X I b δ y) (h : P2 X.K I r x y z) (hm : behindInMarks op b = false := by first | exact nomark _ | rfl) : PV X I (.Compare a [op] [b] pos) δ z := fun W R P p => ev_cmp ho (ha W R _ (hb W R _ (h P p))) hm
theorem pt_cmp {op : CmpOp} {r : R2} {k : Bool} (ho : OpR X (compareOp op) r) (ha : PV X I a δ x) (hb : PV X I b δ y) (h : P2 X.K I r x y (.bl k)) (hm : behindInMarks op b = false := by first | exact nomark _ | rfl) : PVT X I (.Compare a [op] [b] pos) δ k := fun W R P p => et_cmp ho (ha W R _ (hb W R _ (h _ ⟨k, rfl, p⟩))) hm
theorem ev_ix {r : R2} (ho : IxR X r) (h : EvX X W R a δ I fun x I1 => EvX X W R b δ I1 fun y I2 => Op2 X.K r x y I2 P) (hs : PlainIx b := by exact fun _ _ => rfl) : EvX X W R (.Subscript a b pos) δ I P := fun σ G H Q hE s hI qx q =>
  PE.wp (pe_ix ho peC peC hs) (h σ G H _ hE s hI qx fun v x G1 H1 I1 s1 t1 h1 r1 k1 => k1 σ G1 H1 _ (hE.mono s1) t1 h1 (qx.mono s1) fun w y G2 H2 I2 s2 t2 h2 r2 k2 => k2 G2 H2 v w Q t2 h2 (r1.mono s2) r2 (q.mono (s1.trans s2)))
theorem pv_ix {r : R2} (ho : IxR X r) (ha : PV X I a δ x) (hb : PV X I b δ y) (h : P2 X.K I r x y z) (hs : PlainIx b := by exact fun _ _ => rfl) : PV X I (.Subscript a b pos) δ z := fun W R P p => ev_ix ho (ha W R _ (hb W R _ (h P p))) hs
theorem ev_un {op : UnaryOp} {r : V → Hp → VK → Prop} (ho : UnR X (unaryOp op) r) (h : EvX X W R a δ I fun x I1 => Op1 X.K r x I1 P) : EvX X W R (.UnaryOp op a pos) δ I P := fun σ G H Q hE s hI qx q =>
  PE.wp (pe_un ho peC) (h σ G H _ hE s hI qx fun v x G1 H1 I1 s1 t1 h1 r1 k1 => k1 G1 H1 v Q t1 h1 r1 (q.mono s1))
theorem pv_un {op : UnaryOp} {r : V → Hp → VK → Prop} (ho : UnR X (unaryOp op) r) (ha : PV X I a δ x) (h : P1 X.K I r x z) : PV X I (.UnaryOp op a pos) δ z := fun W R P p => ev_un ho (ha W R _ (h P p))
/-- tests -/
theorem et_val (h : EvX X W R e δ I fun z I1 => ∃ k, z = .bl k ∧ PB k I1) (he : ∀ whole, isTrue e X.env whole = (do let v ← whole; standAt e.pos; holding [v] (truthy v)) := by intro _; rfl) : EvT X W R e δ I PB := fun σ G H Q hE s hI qx q =>
  PT.wp (pt_val peC he) (h σ G H _ hE s hI qx fun v d G1 H1 I1 s1 t1 h1 r1 ⟨k, ek, p⟩ => ⟨k, by subst ek; exact r1, q k G1 H1 I1 s1 t1 h1 p⟩)
theorem pt_v {k : Bool} (h : PV X I e δ (.bl k)) (he : ∀ whole, isTrue e X.env whole = (do let v ← whole; standAt e.pos; holding [v] (truthy v)) := by intro _; rfl) : PVT X I e δ k := fun W R P p => et_val (h W R _ ⟨k, rfl, p⟩) he
theorem et_not (h : EvT X W R a δ I fun k I1 => PB (!k) I1) : EvT X W R (.UnaryOp .Not a pos) δ I PB := fun σ G H Q hE s hI qx q =>
  PT.wp (L2.pt_not ptC) (h σ G H _ hE s hI qx fun k G1 H1 I1 s1 t1 h1 p => q (!k) G1 H1 I1 s1 t1 h1 p)
theorem ptn {k : Bool} (h : PVT X I a δ k) : PVT X I (.UnaryOp .Not a pos) δ (!k) := fun W R P p => et_not (h W R _ p)
theorem ew_and (h : EvT X W R a δ I fun k I1 => if k = true then EvW X W R (.BoolOp .And (b :: rest) pos) δ I1 PB else PB false I1) : EvW X W R (.BoolOp .And (a :: b :: rest) pos) δ I PB := fun σ G H Q hE s hI qx q =>
  PW.wp (pw_and ptC pwC) (h σ G H _ hE s hI qx fun k G1 H1 I1 s1 t1 h1 p => by
    cases k with
    | true => exact (show EvW X W R (.BoolOp .And (b :: rest) pos) δ I1 PB from p) σ G1 H1 Q (hE.mono s1) t1 h1 (qx.mono s1) (q.mono s1)
    | false => exact q false G1 H1 I1 s1 t1 h1 p)
theorem ew_or (h : EvT X W R a δ I fun k I1 => if k = true then PB true I1 else EvW X W R (.BoolOp .Or (b :: rest) pos) δ I1 PB) : EvW X W R (.BoolOp .Or (a :: b :: rest) pos) δ I PB := fun σ G H Q hE s hI qx q =>
  PW.wp (pw_or ptC pwC) (h σ G H _ hE s hI qx fun k G1 H1 I1 s1 t1 h1 p => by
    cases k with
    | false => exact (show EvW X W R (.BoolOp .Or (b :: rest) pos) δ I1 PB from p) σ G1 H1 Q (hE.mono s1) t1 h1 (qx.mono s1) (q.mono s1)
    | true => exact q true G1 H1 I1 s1 t1 h1 p)
theorem ew_and1 (h : EvT X W R a δ I PB) : EvW X W R (.BoolOp .And [a] pos) δ I PB := fun σ G H Q hE s hI qx q => PW.wp (pw_and1 ptC) (h σ G H _ hE s hI qx q)
theorem ew_or1 (h : EvT X W R a δ I PB) : EvW X W R (.BoolOp .Or [a] pos) δ I PB := fun σ G H Q hE s hI qx q => PW.wp (pw_or1 ptC) (h σ G H _ hE s hI qx q)
theorem et_w (h : EvW X W R e δ I PB) : EvT X W R e δ I PB := fun σ G H Q hE s hI qx q => ⟨fun pins s1 J => (h σ G H Q hE s hI qx q).run _ pins s1 J⟩
theorem ww_and {k l : Bool} (h1 : PVT X I a δ k) (h2 : k = true → PVW X I (.BoolOp .And (b :: rest) pos) δ l) : PVW X I (.BoolOp .And (a :: b :: rest) pos) δ (k && l) := fun W R P p => ew_and (h1 W R _ (by
  cases k with
  | true => exact h2 rfl W R P p
  | false => exact p))
theorem ww_or {k l : Bool} (h1 : PVT X I a δ k) (h2 : k = false → PVW X I (.BoolOp .Or (b :: rest) pos) δ l) : PVW X I (.BoolOp .Or (a :: b :: rest) pos) δ (k || l) := fun W R P p => ew_or (h1 W R _ (by
  cases k with
  | false => exact h2 rfl W R P p
  | true => exact p))
theorem ww_and1 {k : Bool} (h : PVT X I a δ k) : PVW X I (.BoolOp .And [a] pos) δ k := fun W R P p => ew_and1 (h W R P p)
theorem ww_or1 {k : Bool} (h : PVT X I a δ k) : PVW X I (.BoolOp .Or [a] pos) δ k := fun W R P p => ew_or1 (h W R P p)
theorem ptw {k : Bool} (h : PVW X I e δ k) : PVT X I e δ k := fun W R P p => et_w (h W R P p)
/-- and, or, not, if as values (truths) -/
theorem pv_and {k : Bool} (h1 : PV X I a δ (.bl k)) (h2 : k = true → PV X I (.BoolOp .And (b :: rest) pos) δ z) (h3 : k = false → z = .bl false) : PV X I (.BoolOp .And (a :: b :: rest) pos) δ z := fun W R P p σ G H Q hE s hI qx q =>
  PE.wp (pe_and peC peC) (h1 W R (fun z I1 => z = .bl k ∧ I1 = I) ⟨rfl, rfl⟩ σ G H _ hE s hI qx fun v d G1 H1 I1 s1 t1 e1 r1 ⟨ed, ei⟩ => by
    subst ed ei
    refine ⟨k, r1, ?_⟩
    cases k with
    | true => exact h2 rfl W R P p σ G1 H1 Q (hE.mono s1) t1 e1 (qx.mono s1) (q.mono s1)
    | false =>
      have ez := h3 rfl
      subst ez
      exact q (.bl false) (.bl false) G1 H1 _ s1 t1 e1 rfl p)
theorem pv_or {k : Bool} (h1 : PV X I a δ (.bl k)) (h2 : k = false → PV X I (.BoolOp .Or (b :: rest) pos) δ z) (h3 : k = true → z = .bl true) : PV X I (.BoolOp .Or (a :: b :: rest) pos) δ z := fun W R P p σ G H Q hE s hI qx q =>
  PE.wp (pe_or peC peC) (h1 W R (fun z I1 => z = .bl k ∧ I1 = I) ⟨rfl, rfl⟩ σ G H _ hE s hI qx fun v d G1 H1 I1 s1 t1 e1 r1 ⟨ed, ei⟩ => by
    subst ed ei
    refine ⟨k, r1, ?_⟩
    cases k with
    | false => exact h2 rfl W R P p σ G1 H1 Q (hE.mono s1) t1 e1 (qx.mono s1) (q.mono s1)
    | true =>
      have ez := h3 rfl
      subst ez
      exact q (.bl true) (.bl true) G1 H1 _ s1 t1 e1 rfl p)
theorem pv_one {op} (h : PV X I a δ z) : PV X I (.BoolOp op [a] pos) δ z := fun W R P p σ G H Q hE s hI qx q => PE.wp (pe_one peC) (h W R P p σ G H Q hE s hI qx q)
theorem pv_andB {k l : Bool} (h1 : PV X I a δ (.bl k)) (h2 : k = true → PV X I (.BoolOp .And (b :: rest) pos) δ (.bl l)) : PV X I (.BoolOp .And (a :: b :: rest) pos) δ (.bl (k && l)) := by
  cases k with
  | true => exact pv_and h1 h2 (fun z => nomatch z)
  | false => exact pv_and h1 (fun z => nomatch z) (fun _ => rfl)
theorem pv_orB {k l : Bool} (h1 : PV X I a δ (.bl k)) (h2 : k = false → PV X I (.BoolOp .Or (b :: rest) pos) δ (.bl l)) : PV X I (.BoolOp .Or (a :: b :: rest) pos) δ (.bl (k || l)) := by
  cases k with
  | false => exact pv_or h1 h2 (fun z => nomatch z)
  | true => exact pv_or h1 (fun z => nomatch z) (fun _ => rfl)
theorem pv_not {k : Bool} (h : PV X I a δ (.bl k)) : PV X I (.UnaryOp .Not a pos) δ (.bl (!k)) := fun W R P p σ G H Q hE s hI qx q =>
  PE.wp (pe_not peC) (h W R (fun z I1 => z = .bl k ∧ I1 = I) ⟨rfl, rfl⟩ σ G H _ hE s hI qx fun v d G1 H1 I1 s1 t1 e1 r1 ⟨ed, ei⟩ => by
    subst ed ei
    exact ⟨k, r1, q _ (.bl (!k)) G1 H1 _ s1 t1 e1 rfl p⟩)
theorem pv_if {k : Bool} (h : PVT X I c δ k) (h1 : k = true → PV X I a δ z) (h2 : k = false → PV X I b δ z) : PV X I (.IfExp c a b pos) δ z := fun W R P p σ G H Q hE s hI qx q =>
  PE.wp (pe_ifExp ptC peC peC) (h W R (fun l I1 => l = k ∧ I1 = I) ⟨rfl, rfl⟩ σ G H _ hE s hI qx fun l G1 H1 I1 s1 t1 e1 ⟨el, ei⟩ => by
    subst el ei
    cases l with
    | true => exact h1 rfl W R P p σ G1 H1 Q (hE.mono s1) t1 e1 (qx.mono s1) (q.mono s1)
    | false => exact h2 rfl W R P p σ G1 H1 Q (hE.mono s1) t1 e1 (qx.mono s1) (q.mono s1))
/-- lists of expressions, displays -/
theorem ea_nil (p : PA' [] I) : EvA X W R [] δ I PA' := fun σ G H Q hE s hI qx q => PA.wp pa_nil (q [] [] G H I (Same.refl G) s hI rfl p)
theorem ea_cons (h : EvX X W R e δ I fun d I1 => EvA X W R es δ I1 fun ds I2 => PA' (d :: ds) I2) (hs : starEach (e :: es) X.env = (false, eval e X.env) :: starEach es X.env := by rfl) : EvA X W R (e :: es) δ I PA' := fun σ G H Q hE s hI qx q =>
  PA.wp (pa_cons peC paC hs) (h σ G H _ hE s hI qx fun v d G1 H1 I1 s1 t1 h1 r1 k => k σ G1 H1 _ (hE.mono s1) t1 h1 (qx.mono s1) fun vs ds G2 H2 I2 s2 t2 h2 r2 k2 => q (v :: vs) (d :: ds) G2 H2 I2 (s1.trans s2) t2 h2 ⟨v, vs, rfl, r1.mono s2, r2⟩ k2)
theorem va_nil : PVA X I [] δ [] := fun W R P p => ea_nil p
theorem va_cons {ds : List D} (h : PV X I e δ d) (t : PVA X I es δ ds) (hs : starEach (e :: es) X.env = (false, eval e X.env) :: starEach es X.env := by rfl) : PVA X I (e :: es) δ (d :: ds) := fun W R P p => ea_cons (h W R _ (t W R _ p)) hs
theorem ev_tup {x1} (h : EvA X W R es δ I fun ds I1 => ds.length ≤ 1000 ∧ P (.tup ds) I1) : EvX X W R (.Tuple es x1 pos) δ I P := fun σ G H Q hE s hI qx q =>
  PE.wp (pe_tup paC) (h σ G H _ hE s hI qx fun vs ds G1 H1 I1 s1 t1 h1 r1 ⟨hl, k⟩ => ⟨by rw [r1.length, sizeLine_eq]; omega, fun p hp => by
    have hg : G1 p = none := t1.free hp
    exact q (.ref p) (.tup ds) (upd G1 p (.tup vs)) _ I1 (s1.trans (Evl.Ex.new hg)) (same_upd2 t1) (h1.keep hp t1) ⟨p, vs, rfl, SqT.of upd_same, r1.mono (Evl.Ex.new hg)⟩ k⟩)
/-- a list that does not change any more -/
theorem ev_lst (h : EvA X W R es δ I fun ds I1 => ds.length ≤ 1000 ∧ P (.lst ds) I1) : EvX X W R (.List es pos) δ I P := fun σ G H Q hE s hI qx q =>
  PE.wp (pe_lst paC) (h σ G H _ hE s hI qx fun vs ds G1 H1 I1 s1 t1 h1 r1 ⟨hl, k⟩ => ⟨by rw [r1.length, sizeLine_eq]; omega, fun p hp => by
    have hg : G1 p = none := t1.free hp
    exact q (.ref p) (.lst ds) (upd G1 p (.lst vs)) _ I1 (s1.trans (Evl.Ex.new hg)) (same_upd2 t1) (h1.keep hp t1) ⟨p, vs, rfl, upd_same, r1.mono (Evl.Ex.new hg)⟩ k⟩)
theorem pv_tup {x1} {ds : List D} (h : PVA X I es δ ds) (hl : ds.length ≤ 1000 := by first | decide | simp) : PV X I (.Tuple es x1 pos) δ (.tup ds) := fun W R P p => ev_tup (h W R _ ⟨hl, p⟩)
theorem pv_lst {ds : List D} (h : PVA X I es δ ds) (hl : ds.length ≤ 1000 := by first | decide | simp) : PV X I (.List es pos) δ (.lst ds) := fun W R P p => ev_lst (h W R _ ⟨hl, p⟩)
/-- a list that may change -/
theorem ev_lstM {ds : List D} (h : PVA X I es δ ds) (hl : ds.length ≤ 1000) (hp : ∀ p, (∀ a, ¬ (I.F a ∧ a = p)) → P (.adr p) (I.and (iLst X.K p ds))) : EvX X W R (.List es pos) δ I P := fun σ G H Q hE s hI qx q =>
  PE.wp (pe_lst paC) (h W R (fun es I1 => es = ds ∧ I1 = I) ⟨rfl, rfl⟩ σ G H _ hE s hI qx fun vs es G1 H1 I1 s1 t1 h1 r1 ⟨ee, ei⟩ => ⟨by rw [r1.length, ee, sizeLine_eq]; omega, fun p hq => by
    subst ee ei
    have hg : G1 p = none := t1.free hq
    have na : ∀ a, ¬ (I1.F a ∧ a = p) := fun a ha => h1.dom ha.1 (by rw [ha.2]; exact hq)
    exact q (.ref p) (.adr p) G1 _ (I1.and (iLst X.K p es)) s1 (same_upd t1 hg) (Hd.mk2 (h1.newp hq) ⟨⟨_, upd_same, vs, rfl, r1⟩, fun a ha => by rw [show a = p from ha]; exact hg⟩ na) rfl (hp p na)⟩)
/-- calls of what is built in -/
theorem ev_cb {r : List V → Hp → VK → Prop} {id : String} (hc : CallR X (.builtin id) r) (hm : X.mg x' = none) (h : EvA X W R (e :: es) δ I fun ds I1 => OpN X.K r ds I1 P) (hv : bootBuiltins x' = some (.builtin id) := by decide +kernel) (hg : Gl X x' := by rfl) (hn : x' ≠ "__name__" := by decide) (hdb : (x' == ("__debug__" : Str)) = false := by decide)
    (he : starEach (e :: es) X.env = (false, eval e X.env) :: starEach es X.env := by rfl) (hpl : (backTo pos (starEach es X.env)).any (·.1) = false := by rfl) : EvX X W R (.Call (.Name x' p) (e :: es) [] pos) δ I P := fun σ G H Q hE s hI qx q =>
  PE.wp (pe_callB hc hg hm hv paC hn hdb he hpl) (h σ G H _ hE s hI qx fun vs ds G1 H1 I1 s1 t1 h1 r1 k => k G1 H1 vs Q t1 h1 r1 (q.mono s1))
theorem ev_ct {r : List V → Hp → VK → Prop} {T : String} (hc : CallR X (.type T) r) (hm : X.mg x' = none) (h : EvA X W R (e :: es) δ I fun ds I1 => OpN X.K r ds I1 P) (hv : bootBuiltins x' = some (.type T) := by decide +kernel) (hg : Gl X x' := by rfl) (hn : x' ≠ "__name__" := by decide) (hdb : (x' == ("__debug__" : Str)) = false := by decide)
    (he : starEach (e :: es) X.env = (false, eval e X.env) :: starEach es X.env := by rfl) (hpl : (backTo pos (starEach es X.env)).any (·.1) = false := by rfl) : EvX X W R (.Call (.Name x' p) (e :: es) [] pos) δ I P := fun σ G H Q hE s hI qx q =>
  PE.wp (pe_callTy hc hg hm hv paC hn hdb he hpl) (h σ G H _ hE s hI qx fun vs ds G1 H1 I1 s1 t1 h1 r1 k => k G1 H1 vs Q t1 h1 r1 (q.mono s1))
theorem pv_cb {r : List V → Hp → VK → Prop} {id : String} {ds : List D} (hc : CallR X (.builtin id) r) (hm : X.mg x' = none) (h : PVA X I (e :: es) δ ds) (k : PN X.K I r ds z) (hv : bootBuiltins x' = some (.builtin id) := by decide +kernel) (hg : Gl X x' := by rfl) (hn : x' ≠ "__name__" := by decide) (hdb : (x' == ("__debug__" : Str)) = false := by decide)
    (he : starEach (e :: es) X.env = (false, eval e X.env) :: starEach es X.env := by rfl) (hpl : (backTo pos (starEach es X.env)).any (·.1) = false := by rfl) : PV X I (.Call (.Name x' p) (e :: es) [] pos) δ z := fun W R P p => ev_cb hc hm (h W R _ (k P p)) hv hg hn hdb he hpl
theorem pv_ct {r : List V → Hp → VK → Prop} {T : String} {ds : List D} (hc : CallR X (.type T) r) (hm : X.mg x' = none) (h : PVA X I (e :: es) δ ds) (k : PN X.K I r ds z) (hv : bootBuiltins x' = some (.type T) := by decide +kernel) (hg : Gl X x' := by rfl) (hn : x' ≠ "__name__" := by decide) (hdb : (x' == ("__debug__" : Str)) = false := by decide)
    (he : starEach (e :: es) X.env = (false, eval e X.env) :: starEach es X.env := by rfl) (hpl : (backTo pos (starEach es X.env)).any (·.1) = false := by rfl) : PV X I (.Call (.Name x' p) (e :: es) [] pos) δ z := fun W R P p => ev_ct hc hm (h W R _ (k P p)) hv hg hn hdb he hpl
end
end DL
set_option Elab.async false
set_option linter.all false
set_option maxRecDepth 100000
set_option maxHeartbeats 4000000
namespace DL
open PySem PySem.Spec PyProof.Rows L2

/-! ### ways out of a block -/
structure Ko (K : PySem.W.Frag) where
  nx : DEnv → Iv K → Prop
  rt : D → Iv K → Prop
  bk : DEnv → Iv K → Prop := fun _ _ => False
  ct : DEnv → Iv K → Prop := fun _ _ => False
  ex : Addr → List (Str × D) → DEnv → Iv K → Prop := fun _ _ _ _ => False
def Ks (K : PySem.W.Frag) (N : L2.St → Hp → Prop) (G : Hp) (n : DEnv → Iv K → Prop) : Prop := ∀ (δ : DEnv) (σ : L2.St) (G' H' : Hp) (I' : Iv K), Same G G' → Same G' H' → Hd I' G' H' → EnvR K G' δ σ → n δ I' → N σ H'
def Ke (K : PySem.W.Frag) (W : WX) (G : Hp) (x : Addr → List (Str × D) → DEnv → Iv K → Prop) : Prop := ∀ (C dd : Addr) (fs : List (Str × D)) (l : List (Str × V)) (δ : DEnv) (σ : L2.St) (G' H' : Hp) (I' : Iv K), Same G G' → Same G' H' → Hd I' G' H' → EnvR K G' δ σ → FRep K G' fs l → G' dd = some (.xd l) → x C fs δ I' → W (.ref C) (some dd) σ H'
structure KoLe (K : PySem.W.Frag) (W : WX) (E : Ends) (G : Hp) (κ : Ko K) : Prop where
  nx : Ks K E.nx G κ.nx
  rt : Kv K E.rt G κ.rt
  bk : Ks K E.bk G κ.bk
  ct : Ks K E.ct G κ.ct
  ex : Ke K W G κ.ex
section
variable {K : PySem.W.Frag} {W : WX} {E : Ends} {G G1 : Hp} {κ : Ko K}
theorem Ks.mono {N : L2.St → Hp → Prop} {n : DEnv → Iv K → Prop} (s : Same G G1) (h : Ks K N G n) : Ks K N G1 n := fun δ σ G' H' I' s1 => h δ σ G' H' I' (s.trans s1)
theorem Ke.mono {x : Addr → List (Str × D) → DEnv → Iv K → Prop} (s : Same G G1) (h : Ke K W G x) : Ke K W G1 x := fun C dd fs l δ σ G' H' I' s1 => h C dd fs l δ σ G' H' I' (s.trans s1)
theorem KoLe.mono (s : Same G G1) (h : KoLe K W E G κ) : KoLe K W E G1 κ := ⟨h.nx.mono s, h.rt.mono s, h.bk.mono s, h.ct.mono s, h.ex.mono s⟩
theorem KoLe.kx {δ : DEnv} {σ : L2.St} (h : KoLe K W E G κ) (hE : EnvR K G δ σ) : Kx K W σ G (fun C fs I' => κ.ex C fs δ I') := fun C dd fs l G' H' I' s1 s2 h1 r hd p => h.ex C dd fs l δ σ G' H' I' s1 s2 h1 (hE.mono s1) r hd p
end
/-- a block, a statement -/
def SX (X : Cx) (W : WX) (sts : List Stmt) (δ : DEnv) (I : Iv X.K) (κ : Ko X.K) : Prop := ∀ (σ : L2.St) (G H : Hp) (E : Ends), EnvR X.K G δ σ → Same G H → Hd I G H → KoLe X.K W E G κ → wpB X sts E σ H
def S1 (X : Cx) (W : WX) (st : Stmt) (δ : DEnv) (I : Iv X.K) (κ : Ko X.K) : Prop := ∀ (σ : L2.St) (G H : Hp) (E : Ends), EnvR X.K G δ σ → Same G H → Hd I G H → KoLe X.K W E G κ → wpS X st E σ H
abbrev Ko.r {K : PySem.W.Frag} (κ : Ko K) (δ : DEnv) : Rx K := fun C fs I' => κ.ex C fs δ I'
/-- a target is bound -/
structure wpG (X : Cx) (tg : Expr) (v : V) (σ : L2.St) (H : Hp) (Q : L2.St → Hp → Prop) : Prop where
  run : ∀ (pins : List (Addr × Obj)) (s : Shared) (u : Value), Inv X pins σ H s → RelV v u → wpAny (model X.prog X.w) X.A (assign tg X.env u) (fun _ s' => ∃ σ' H', Inv X pins σ' H' s' ∧ Q σ' H') X.xe s
def BindD (X : Cx) (tg : Expr) (d : D) (δ δ' : DEnv) (vs : List Nat) : Prop := ∀ (v : V) (σ : L2.St) (G H : Hp) (Q : L2.St → Hp → Prop), EnvR X.K G δ σ → Same G H → Rep X.K G d v → (∀ σ', EnvR X.K G δ' σ' → wipe σ' vs = wipe σ vs → Q σ' H) → wpG X tg v σ H Q
/-- what is walked -/
structure wpI (X : Cx) (tg iter : Expr) (σ : L2.St) (H : Hp) (RR : It → Hp → Prop) : Prop where
  run : ∀ (pins : List (Addr × Obj)) (s : Shared), Inv X pins σ H s → wpAny (model X.prog X.w) X.A (eval iter X.env) (fun v s1 => wpAny (model X.prog X.w) X.A (pyIter v) (PIE X pins σ tg RR) X.xe s1) X.xe s
structure WalkD (K : PySem.W.Frag) (J : It) (ds : List D) (G : Hp) : Prop where
  go : ∀ i G' H', Same G G' → Same G' H' → i < ds.length → J.go i H'
  stop : ∀ G' H', Same G G' → Same G' H' → J.stop ds.length H'
  yld : ∀ i G' H' (I : Iv K) x H'', Same G G' → Same G' H' → Hd I G' H' → i < ds.length → J.yld i H' x H'' → ∃ G'', Same G' G'' ∧ Same G'' H'' ∧ Hd I G'' H'' ∧ (∀ a o, H' a = some o → H'' a = some o) ∧ ∃ d, ds[i]? = some d ∧ Rep K G'' d x
theorem WalkD.mono {K : PySem.W.Frag} {J : It} {ds : List D} {G G1 : Hp} (h : WalkD K J ds G) (s : Same G G1) : WalkD K J ds G1 :=
  ⟨fun i G' H' s1 => h.go i G' H' (s.trans s1), fun G' H' s1 => h.stop G' H' (s.trans s1), fun i G' H' I x H'' s1 => h.yld i G' H' I x H'' (s.trans s1)⟩
def EvI (X : Cx) (W : WX) (R : Rx X.K) (tg iter : Expr) (δ : DEnv) (I : Iv X.K) (P : List D → Iv X.K → Prop) : Prop := ∀ (σ : L2.St) (G H : Hp) (RR : It → Hp → Prop), EnvR X.K G δ σ → Same G H → Hd I G H → Kx X.K W σ G R →
  (∀ (J : It) (ds : List D) (G' H' : Hp) (I' : Iv X.K), Same G G' → Same G' H' → Hd I' G' H' → WalkD X.K J ds G' → P ds I' → RR J H') → wpI X tg iter σ H RR
/-- .. for good -/
def PVI (X : Cx) (I : Iv X.K) (tg iter : Expr) (δ : DEnv) (ds : List D) : Prop := ∀ (W : WX) (R : Rx X.K) (P : List D → Iv X.K → Prop), P ds I → EvI X W R tg iter δ I P
section
variable {X : Cx} {tg iter : Expr} {wi : TI} {g : TG}
theorem piC : PI X tg iter (wpI X tg iter) := ⟨fun pins s σ H R I h => h.run pins s I⟩
theorem PI.wp (h : PI X tg iter wi) {σ : L2.St} {H : Hp} {RR : It → Hp → Prop} (q : wi σ H RR) : wpI X tg iter σ H RR := ⟨fun pins s I => h.run pins s σ H RR I q⟩
theorem pgC : PG X tg (wpG X tg) := ⟨fun pins s σ H v u Q I r h => h.run pins s u I r⟩
theorem PG.wp (h : PG X tg g) {v : V} {σ : L2.St} {H : Hp} {Q : L2.St → Hp → Prop} (q : g v σ H Q) : wpG X tg v σ H Q := ⟨fun pins s u I r => h.run pins s σ H v u Q I r q⟩
end
/-! ### slots forgotten -/
def wipeD (δ : DEnv) : List Nat → DEnv
  | [] => δ
  | v :: vs => (wipeD δ vs).set v none
theorem EnvR.wipe {K : PySem.W.Frag} {G : Hp} {δ : DEnv} {σ : L2.St} (h : EnvR K G δ σ) : ∀ vs, EnvR K G (wipeD δ vs) (L2.wipe σ vs)
  | [] => h
  | _ :: vs => (EnvR.wipe h vs).drop none
theorem wipe_get (σ : L2.St) (j : Nat) : ∀ vs : List Nat, (L2.wipe σ vs)[j]? = if j ∈ vs then (if j < σ.length then some none else none) else σ[j]?
  | [] => by simp [L2.wipe]
  | v :: vs => by
    unfold L2.wipe
    by_cases h : v = j
    · subst h
      rw [List.getElem?_set, wipe_length]
      simp
    · rw [List.getElem?_set_ne h, wipe_get σ j vs]
      have e : (j ∈ v :: vs) ↔ (j ∈ vs) := by
        simp only [List.mem_cons]
        exact ⟨fun z => z.elim (fun z => absurd z.symm h) id, .inr⟩
      by_cases q : j ∈ vs
      · rw [if_pos q, if_pos (e.mpr q)]
      · rw [if_neg q, if_neg (fun z => q (e.mp z))]
theorem wipe_set (σ : L2.St) {i : Nat} {x : Option V} {vs : List Nat} (h : i ∈ vs) : L2.wipe (σ.set i x) vs = L2.wipe σ vs := by
  apply List.ext_getElem?
  intro j
  rw [wipe_get, wipe_get]
  by_cases q : j ∈ vs
  · simp [q]
  · rw [if_neg q, if_neg q, List.getElem?_set_ne]
    intro e
    exact q (e ▸ h)
theorem wipe_wipe (σ : L2.St) (vs : List Nat) : L2.wipe (L2.wipe σ vs) vs = L2.wipe σ vs := by
  apply List.ext_getElem?
  intro j
  rw [wipe_get]
  by_cases q : j ∈ vs
  · rw [if_pos q, wipe_get, if_pos q, wipe_length]
  · rw [if_neg q]

section
variable {X : Cx} {W : WX} {a b c e : Expr} {es : List Expr} {st : Stmt} {sts rest : List Stmt} {δ : DEnv} {I : Iv X.K} {κ : Ko X.K} {pos p : Pos} {d x y z : D} {x' : Str} {i : Nat}
theorem s_nil (h : κ.nx δ I) : SX X W [] δ I κ := fun σ G H E hE s hI k => PSs.wp pss_nil (k.nx δ σ G H I (Same.refl G) s hI hE h)
theorem s_cons (h : S1 X W st δ I { κ with nx := fun δ' I' => SX X W rest δ' I' κ }) : SX X W (st :: rest) δ I κ := fun σ G H E hE s hI k =>
  PSs.wp (pss_cons psC pssC) (h σ G H _ hE s hI ⟨fun δ' σ' G' H' I' s1 t1 h1 r p => p σ' G' H' E r t1 h1 (k.mono s1), k.rt, k.bk, k.ct, k.ex⟩)
theorem s_one (h : S1 X W st δ I κ) : SX X W [st] δ I κ := fun σ G H E hE s hI k => PSs.wp (pss_one psC) (h σ G H E hE s hI k)
theorem S1.imp {κ' : Ko X.K} (h : S1 X W st δ I κ') (n : ∀ δ I, κ'.nx δ I → κ.nx δ I) (r : ∀ d I, κ'.rt d I → κ.rt d I) (b : ∀ δ I, κ'.bk δ I → κ.bk δ I) (c : ∀ δ I, κ'.ct δ I → κ.ct δ I) (x : ∀ C fs δ I, κ'.ex C fs δ I → κ.ex C fs δ I) : S1 X W st δ I κ := fun σ G H E hE s hI k =>
  h σ G H E hE s hI ⟨fun δ' σ' G' H' I' s1 t1 h1 r p => k.nx δ' σ' G' H' I' s1 t1 h1 r (n _ _ p), fun v d G' H' I' s1 t1 h1 r1 p => k.rt v d G' H' I' s1 t1 h1 r1 (r _ _ p), fun δ' σ' G' H' I' s1 t1 h1 r p => k.bk δ' σ' G' H' I' s1 t1 h1 r (b _ _ p), fun δ' σ' G' H' I' s1 t1 h1 r p => k.ct δ' σ' G' H' I' s1 t1 h1 r (c _ _ p),
    fun C dd fs l δ' σ' G' H' I' s1 t1 h1 r q hd p => k.ex C dd fs l δ' σ' G' H' I' s1 t1 h1 r q hd (x _ _ _ _ p)⟩
theorem SX.imp {κ' : Ko X.K} (h : SX X W sts δ I κ') (n : ∀ δ I, κ'.nx δ I → κ.nx δ I) (r : ∀ d I, κ'.rt d I → κ.rt d I) (b : ∀ δ I, κ'.bk δ I → κ.bk δ I) (c : ∀ δ I, κ'.ct δ I → κ.ct δ I) (x : ∀ C fs δ I, κ'.ex C fs δ I → κ.ex C fs δ I) : SX X W sts δ I κ := fun σ G H E hE s hI k =>
  h σ G H E hE s hI ⟨fun δ' σ' G' H' I' s1 t1 h1 r p => k.nx δ' σ' G' H' I' s1 t1 h1 r (n _ _ p), fun v d G' H' I' s1 t1 h1 r1 p => k.rt v d G' H' I' s1 t1 h1 r1 (r _ _ p), fun δ' σ' G' H' I' s1 t1 h1 r p => k.bk δ' σ' G' H' I' s1 t1 h1 r (b _ _ p), fun δ' σ' G' H' I' s1 t1 h1 r p => k.ct δ' σ' G' H' I' s1 t1 h1 r (c _ _ p),
    fun C dd fs l δ' σ' G' H' I' s1 t1 h1 r q hd p => k.ex C dd fs l δ' σ' G' H' I' s1 t1 h1 r q hd (x _ _ _ _ p)⟩
/-- x = e -/
theorem s_set (i : Nat) (h : EvX X W (κ.r δ) e δ I fun d I1 => κ.nx (δ.set i (some d)) I1) {pos' : Pos} (hN : X.N.Nodup := by assumption) (hi : X.N[i]? = some x' := by rfl) (hx : Loc X.env.scope x' := by first | exact Or.inl rfl | exact Or.inr rfl) (hs : swapsWith e (some (.Name x' pos')) pos.line X.env = pure false := by rfl)
    (hf : X.fn x' = true ∨ X.env.scope.names.lookup x' = some .local := by first | exact .inl rfl | exact .inr rfl) : S1 X W (.Assign [.Name x' pos'] e pos) δ I κ := fun σ G H E hE s hI k =>
  PS.wp (ps_set hN hi hx peC hs hf) (h σ G H _ hE s hI (k.kx hE) fun v d G1 H1 I1 s1 t1 h1 r1 p => k.nx _ _ G1 H1 I1 s1 t1 h1 ((hE.mono s1).set r1) p)
theorem s_setP (i : Nat) (h : PV X I e δ d) (q : κ.nx (δ.set i (some d)) I) {pos' : Pos} (hN : X.N.Nodup := by assumption) (hi : X.N[i]? = some x' := by rfl) (hx : Loc X.env.scope x' := by first | exact Or.inl rfl | exact Or.inr rfl) (hs : swapsWith e (some (.Name x' pos')) pos.line X.env = pure false := by rfl)
    (hf : X.fn x' = true ∨ X.env.scope.names.lookup x' = some .local := by first | exact .inl rfl | exact .inr rfl) : S1 X W (.Assign [.Name x' pos'] e pos) δ I κ := s_set i (h W _ _ q) hN hi hx hs hf
theorem s_ret (h : EvX X W (κ.r δ) e δ I κ.rt) : S1 X W (.Return (some e) pos) δ I κ := fun σ G H E hE s hI k => PS.wp (ps_ret peC) (h σ G H _ hE s hI (k.kx hE) k.rt)
theorem s_retP (h : PV X I e δ d) (q : κ.rt d I) : S1 X W (.Return (some e) pos) δ I κ := s_ret (h W _ _ q)
theorem s_retN (q : κ.rt .non I) : S1 X W (.Return none pos) δ I κ := fun σ G H E hE s hI k => PS.wp ps_retN (k.rt .non .non G H I (Same.refl G) s hI rfl q)
theorem s_if (h : EvT X W (κ.r δ) c δ I fun b I1 => if b = true then SX X W sts δ I1 κ else SX X W rest δ I1 κ) : S1 X W (.If c sts rest pos) δ I κ := fun σ G H E hE s hI k =>
  PS.wp (ps_if ptC pssC pssC) (h σ G H _ hE s hI (k.kx hE) fun b G1 H1 I1 s1 t1 h1 p => by
    cases b with
    | true => exact (show SX X W sts δ I1 κ from p) σ G1 H1 E (hE.mono s1) t1 h1 (k.mono s1)
    | false => exact (show SX X W rest δ I1 κ from p) σ G1 H1 E (hE.mono s1) t1 h1 (k.mono s1))
theorem s_ifP {b : Bool} (h : PVT X I c δ b) (h1 : b = true → SX X W sts δ I κ) (h2 : b = false → SX X W rest δ I κ) : S1 X W (.If c sts rest pos) δ I κ := s_if (h W _ _ (by
  cases b with
  | true => exact h1 rfl
  | false => exact h2 rfl))
theorem s_expr (h : EvX X W (κ.r δ) e δ I fun _ I1 => κ.nx δ I1) (hs : swapsWith e none pos.line X.env = pure false := by rfl) : S1 X W (.Expr e pos) δ I κ := fun σ G H E hE s hI k =>
  PS.wp (ps_expr peC hs) (h σ G H _ hE s hI (k.kx hE) fun v d G1 H1 I1 s1 t1 h1 r1 p => k.nx _ _ G1 H1 I1 s1 t1 h1 (hE.mono s1) p)
theorem s_pass (h : κ.nx δ I) : S1 X W (.Pass pos) δ I κ := fun σ G H E hE s hI k => PS.wp ps_pass (k.nx δ σ G H I (Same.refl G) s hI hE h)
theorem s_break (h : κ.bk δ I) : S1 X W (.Break pos) δ I κ := fun σ G H E hE s hI k => PS.wp ps_break (k.bk δ σ G H I (Same.refl G) s hI hE h)
theorem s_continue (h : κ.ct δ I) : S1 X W (.Continue pos) δ I κ := fun σ G H E hE s hI k => PS.wp ps_continue (k.ct δ σ G H I (Same.refl G) s hI hE h)
/-- targets -/
theorem bind_name (i : Nat) {vs : List Nat} {pos' : Pos} (hv : i ∈ vs := by decide) (hN : X.N.Nodup := by assumption) (hi : X.N[i]? = some x' := by rfl) (hx : Loc X.env.scope x' := by first | exact Or.inl rfl | exact Or.inr rfl) (hf : X.fn x' = true ∨ X.env.scope.names.lookup x' = some .local := by first | exact .inl rfl | exact .inr rfl) :
    BindD X (.Name x' pos') d δ (δ.set i (some d)) vs := fun v σ G H Q hE s r q => PG.wp (pg_name hN hi hx hf) (q _ (hE.set r) (wipe_set σ hv))
/-- a for -/
theorem s_for {iter tg : Expr} {body : List Stmt} (po : PassesOwn (model X.prog X.w) X.A X.env X.xe) (h : EvI X W (κ.r δ) tg iter δ I fun ds I1 => ∃ Nv : Nat → DEnv → Iv X.K → Prop, Nv 0 δ I1 ∧
      (∀ i d δ' I', ds[i]? = some d → Nv i δ' I' → ∃ δ'' vs, BindD X tg d δ' δ'' vs ∧ SX X W body δ'' I' { κ with nx := Nv (i + 1), ct := Nv (i + 1), bk := κ.nx }) ∧ ∀ δ' I', Nv ds.length δ' I' → κ.nx δ' I')
    (hc : X.calm = true := by rfl) (hs : ∀ x, foldedSetIterable iter X.env x = pure x := by intro _; rfl) : S1 X W (.For tg iter body [] pos) δ I κ := fun σ G H E hE s hI k =>
  PS.wp (ps_for po hc piC pgC pssC hs) (h σ G H _ hE s hI (k.kx hE) fun J ds G1 H1 I1 s1 t1 h1 wk ⟨Nv, i0, step, fin⟩ => by
    refine ⟨fun i m σ' H' => m = ds.length - i ∧ i ≤ ds.length ∧ ∃ δ' G' I', Same G1 G' ∧ Same G' H' ∧ Hd I' G' H' ∧ EnvR X.K G' δ' σ' ∧ Nv i δ' I', ⟨_, rfl, Nat.zero_le _, δ, G1, I1, Same.refl G1, t1, h1, hE.mono s1, i0⟩, ?_⟩
    rintro i m σ' H' ⟨rfl, hi, δ', G', I', s2, t2, h2, e2, iv⟩
    by_cases hlt : i < ds.length
    · refine .inr ⟨wk.go i G' H' s2 t2 hlt, fun σ3 H3 => ∃ δ3 G3 I3, Same G1 G3 ∧ Same G3 H3 ∧ Hd I3 G3 H3 ∧ EnvR X.K G3 δ3 σ3 ∧ Nv (i + 1) δ3 I3, fun σ3 H3 ⟨δ3, G3, I3, q1, q2, q3, q4, q5⟩ => ⟨ds.length - (i + 1), by omega, rfl, hlt, δ3, G3, I3, q1, q2, q3, q4, q5⟩, fun x H3 hy => ?_⟩
      obtain ⟨G3, s3, t3, h3, _, d, hd, rd⟩ := wk.yld i G' H' I' x H3 s2 t2 h2 hlt hy
      obtain ⟨δ'', vs, bd, bs⟩ := step i d δ' I' hd iv
      refine bd x σ' G3 H3 _ (e2.mono s3) t3 rd fun σ4 e4 _ => ?_
      have s13 : Same G1 G3 := s2.trans s3
      exact bs σ4 G3 H3 _ e4 t3 h3 ⟨fun δ5 σ5 G5 H5 I5 s5 t5 h5 r5 p5 => ⟨δ5, G5, I5, s13.trans s5, t5, h5, r5, p5⟩, k.rt.mono (s1.trans s13), k.nx.mono (s1.trans s13), fun δ5 σ5 G5 H5 I5 s5 t5 h5 r5 p5 => ⟨δ5, G5, I5, s13.trans s5, t5, h5, r5, p5⟩, k.ex.mono (s1.trans s13)⟩
    · have ei : i = ds.length := by omega
      subst ei
      exact .inl ⟨wk.stop G' H' s2 t2, k.nx δ' σ' G' H' I' (s1.trans s2) t2 h2 e2 (fin δ' I' iv)⟩)
/-- a while, by what holds and a measure -/
theorem s_while {body : List Stmt} (po : PassesOwn (model X.prog X.w) X.A X.env X.xe) (Nv : Nat → DEnv → Iv X.K → Prop) (m : Nat) (i0 : Nv m δ I)
    (step : ∀ m δ' I', Nv m δ' I' → EvT X W (κ.r δ') c δ' I' fun b I1 => if b = true then SX X W body δ' I1 { κ with nx := fun δ'' I'' => ∃ m', m' < m ∧ Nv m' δ'' I'', ct := fun δ'' I'' => ∃ m', m' < m ∧ Nv m' δ'' I'', bk := κ.nx } else κ.nx δ' I1) : S1 X W (.While c body [] pos) δ I κ := fun σ G H E hE s hI k =>
  PS.wp (ps_while po ptC pssC) (by
    refine ⟨fun m σ' H' => ∃ δ' G' I', Same G G' ∧ Same G' H' ∧ Hd I' G' H' ∧ EnvR X.K G' δ' σ' ∧ Nv m δ' I', ⟨m, δ, G, I, Same.refl G, s, hI, hE, i0⟩, ?_⟩
    rintro m σ' H' ⟨δ', G', I', s2, t2, h2, e2, iv⟩
    refine step m δ' I' iv σ' G' H' _ e2 t2 h2 ((k.mono s2).kx e2) fun b G3 H3 I3 s3 t3 h3 p => ?_
    cases b with
    | true =>
      have s13 := s2.trans s3
      refine ⟨fun σ5 H5 => ∃ m', m' < m ∧ ∃ δ5 G5 I5, Same G G5 ∧ Same G5 H5 ∧ Hd I5 G5 H5 ∧ EnvR X.K G5 δ5 σ5 ∧ Nv m' δ5 I5, fun σ5 H5 q => q, ?_⟩
      exact (show SX X W body δ' I3 _ from p) σ' G3 H3 _ (e2.mono s3) t3 h3 ⟨fun δ5 σ5 G5 H5 I5 s5 t5 h5 r5 ⟨m', hm, p5⟩ => ⟨m', hm, δ5, G5, I5, s13.trans s5, t5, h5, r5, p5⟩, k.rt.mono s13, k.nx.mono s13, fun δ5 σ5 G5 H5 I5 s5 t5 h5 r5 ⟨m', hm, p5⟩ => ⟨m', hm, δ5, G5, I5, s13.trans s5, t5, h5, r5, p5⟩, k.ex.mono s13⟩
    | false => exact k.nx δ' σ' G3 H3 I3 (s2.trans s3) t3 h3 (e2.mono s3) p)
end
end DL
set_option Elab.async false
set_option linter.all false
set_option maxRecDepth 100000
set_option maxHeartbeats 4000000
namespace DL
open PySem PySem.Spec PyProof.Rows L2

/-! ### what a def does, by data -/
abbrev Spec (K : PySem.W.Frag) := Iv K → List D → (D → Iv K → Prop) → Rx K → Prop
def spD (K : PySem.W.Frag) (S : Spec K) : Sp := fun vs H Q E => ∃ (I : Iv K) (G : Hp) (ds : List D) (P : D → Iv K → Prop) (R : Rx K), Same G H ∧ Hd I G H ∧ Reps K G ds vs ∧ S I ds P R ∧ Kv K Q G P ∧
  ∀ (C dd : Addr) (fs : List (Str × D)) (l : List (Str × V)) (G' H' : Hp) (I' : Iv K), Same G G' → Same G' H' → Hd I' G' H' → FRep K G' fs l → G' dd = some (.xd l) → R C fs I' → E (.ref C) (some dd) H'
/-- a value for good, where C holds -/
def sFn {K : PySem.W.Frag} (C : List D → Prop) (f : List D → D) : Spec K := fun I ds P _ => C ds ∧ P (f ds) I
section
variable {P : Program} {w : World} {K : PySem.W.Frag} {mg : Str → Option Value} {base : Heap} {x qual : Str} {params : Arguments} {body : List Stmt} {scope : Scope} {dvs : List V} {kws : List (Str × V)} {f : Addr} {fd : FuncData}
/-- THE RULE for a def -/
theorem fn_d {N ps : List Str} {k : Nat} {S : Spec K} (F : FunD K x qual params body scope dvs kws f fd) (sc : FnScope N ps scope) (len : ∀ I ds P R, S I ds P R → ds.length = ps.length)
    (h : ∀ (cdv : Value) (A : Around) (outer : List Env) (s : Shared) (H : Hp) (E : XK), Room k (A.deeper (envOfC qual scope s.heap.objs.size f cdv)) →
      Takes (cxOf (L2.CX P w) P w K mg base N qual scope f cdv A outer s H E) (fun cls d _ H => E cls d H) →
      PassesOwn (model P w) (A.deeper (envOfC qual scope s.heap.objs.size f cdv)) (envOfC qual scope s.heap.objs.size f cdv) (cxOf (L2.CX P w) P w K mg base N qual scope f cdv A outer s H E).xe →
      ∀ (I : Iv K) (ds : List D) (Q : D → Iv K → Prop) (R : Rx K), S I ds Q R →
      SX (cxOf (L2.CX P w) P w K mg base N qual scope f cdv A outer s H E) (fun cls d _ H => E cls d H) body (dstart N ds) I { nx := fun _ I' => Q .non I', rt := Q, ex := fun C fs _ I' => R C fs I' }) :
    FnOk P w K mg base (L2.CX P w) (k + 1) f fd ps (spD K S) := by
  refine F.ok sc (fun vs H Q E h => ?_) (fun cdv A outer s H vs Q E hr hq => ?_)
  · obtain ⟨I, G, ds, P', R, _, _, r, hS, _, _⟩ := h
    rw [r.length]
    exact len _ _ _ _ hS
  · obtain ⟨I, G, ds, P', R, sm, hI, r, hS, kv, ke⟩ := hq
    refine ⟨_, pssC, h cdv A outer s H E hr (takes_of rfl rfl rfl rfl) (passes_of rfl) I ds P' R hS _ G H _ (EnvR.start r) sm hI ?_⟩
    exact ⟨fun δ σ G' H' I' s1 s2 h1 _ p => kv .non .non G' H' I' s1 s2 h1 rfl p, kv, fun _ _ _ _ _ _ _ _ _ p => p.elim, fun _ _ _ _ _ _ _ _ _ p => p.elim,
      fun C dd fs l δ σ G' H' I' s1 s2 h1 _ r2 hd p => ke C dd fs l G' H' I' s1 s2 h1 r2 hd p⟩
end
/-! ### calls -/
section
variable {X : Cx} {W : WX} {R : Rx X.K} {e : Expr} {es : List Expr} {δ : DEnv} {I : Iv X.K} {P : D → Iv X.K → Prop} {pos p : Pos} {x : Str} {f : Addr} {fd : FuncData} {ps : List Str} {k : Nat} {S : Spec X.K} {dvs : List V} {dds : List D} {us : List Value} {d : D}
/-- f(e, ..), the defaults fill up -/
theorem ev_callD (tk : Takes X W) (F : FnOk X.prog X.w X.K X.mg X.base (L2.CX X.prog X.w) k f fd ps (spD X.K S)) (hr : Room k X.A) (hm : X.mg x = some (.ref f)) (hk : PySem.W.keepIn X.K (.ref f) = true) (hb : Binds X.K fd ps us) (hd : Vals dvs us) (hdd : ∀ G, Reps X.K G dds dvs)
    (h : EvA X W R (e :: es) δ I fun ds I1 => S I1 (ds ++ dds) P R) (hg : Gl X x := by rfl) (hdb : (x == ("__debug__" : Str)) = false := by decide)
    (he : starEach (e :: es) X.env = (false, eval e X.env) :: starEach es X.env := by rfl) (hpl : (backTo pos (starEach es X.env)).any (·.1) = false := by rfl) : EvX X W R (.Call (.Name x p) (e :: es) [] pos) δ I P := fun σ G H Q hE s hI qx q =>
  PE.wp (pe_callSD F hr hg hm hk hb hd (fun σ => passAt tk σ) paC hdb he hpl) (h σ G H _ hE s hI qx fun vs ds G1 H1 I1 s1 t1 h1 r1 k1 =>
    ⟨I1, G1, ds ++ dds, P, R, t1, h1, r1.append (hdd G1), k1, q.mono s1, fun C dd fs l G' H' I' s2 t2 h2 r2 hx p => qx C dd fs l G' H' I' (s1.trans s2) t2 h2 r2 hx p⟩)
theorem ev_call (tk : Takes X W) (F : FnOk X.prog X.w X.K X.mg X.base (L2.CX X.prog X.w) k f fd ps (spD X.K S)) (hr : Room k X.A) (hm : X.mg x = some (.ref f)) (hk : PySem.W.keepIn X.K (.ref f) = true) (hb : Binds X.K fd ps [])
    (h : EvA X W R (e :: es) δ I fun ds I1 => S I1 ds P R) (hg : Gl X x := by rfl) (hdb : (x == ("__debug__" : Str)) = false := by decide)
    (he : starEach (e :: es) X.env = (false, eval e X.env) :: starEach es X.env := by rfl) (hpl : (backTo pos (starEach es X.env)).any (·.1) = false := by rfl) : EvX X W R (.Call (.Name x p) (e :: es) [] pos) δ I P :=
  ev_callD (dvs := []) (dds := []) tk F hr hm hk hb .nil (fun _ => rfl) (fun σ G H Q hE s hI qx q => h σ G H Q hE s hI qx fun vs ds G' H' I' s1 t1 h1 r1 p => q vs ds G' H' I' s1 t1 h1 r1 (by show S I' (ds ++ []) P R; rw [List.append_nil]; exact p)) hg hdb he hpl
end
/-- what a call of a def that raises nothing may let out here -/
theorem takesF {X : Cx} : Takes X (fun _ _ _ _ => False) := takes0
section
variable {X : Cx} {I : Iv X.K} {e : Expr} {es : List Expr} {δ : DEnv} {pos p : Pos} {x : Str} {f : Addr} {fd : FuncData} {ps : List Str} {k : Nat} {S : Spec X.K} {dvs : List V} {ds dds : List D} {us : List Value} {d : D}
theorem EvX.weak {W : WX} {R : Rx X.K} {P : D → Iv X.K → Prop} (h : EvX X (fun _ _ _ _ => False) (fun _ _ _ => False) e δ I P) : EvX X W R e δ I P := fun σ G H Q hE s hI qx q => h σ G H Q hE s hI (fun _ _ _ _ _ _ _ _ _ _ _ _ z => z.elim) q
/-- a call for good: its value -/
theorem pv_callD (F : FnOk X.prog X.w X.K X.mg X.base (L2.CX X.prog X.w) k f fd ps (spD X.K S)) (hr : Room k X.A) (hm : X.mg x = some (.ref f)) (hk : PySem.W.keepIn X.K (.ref f) = true) (hb : Binds X.K fd ps us) (hd : Vals dvs us) (hdd : ∀ G, Reps X.K G dds dvs)
    (ha : PVA X I (e :: es) δ ds) (hS : ∀ (P : D → Iv X.K → Prop), P d I → S I (ds ++ dds) P (fun _ _ _ => False)) (hg : Gl X x := by rfl) (hdb : (x == ("__debug__" : Str)) = false := by decide)
    (he : starEach (e :: es) X.env = (false, eval e X.env) :: starEach es X.env := by rfl) (hpl : (backTo pos (starEach es X.env)).any (·.1) = false := by rfl) : PV X I (.Call (.Name x p) (e :: es) [] pos) δ d := fun W R P q =>
  EvX.weak (ev_callD takesF F hr hm hk hb hd hdd (ha _ _ _ (hS P q)) hg hdb he hpl)
theorem pv_call (F : FnOk X.prog X.w X.K X.mg X.base (L2.CX X.prog X.w) k f fd ps (spD X.K S)) (hr : Room k X.A) (hm : X.mg x = some (.ref f)) (hk : PySem.W.keepIn X.K (.ref f) = true) (hb : Binds X.K fd ps [])
    (ha : PVA X I (e :: es) δ ds) (hS : ∀ (P : D → Iv X.K → Prop), P d I → S I ds P (fun _ _ _ => False)) (hg : Gl X x := by rfl) (hdb : (x == ("__debug__" : Str)) = false := by decide)
    (he : starEach (e :: es) X.env = (false, eval e X.env) :: starEach es X.env := by rfl) (hpl : (backTo pos (starEach es X.env)).any (·.1) = false := by rfl) : PV X I (.Call (.Name x p) (e :: es) [] pos) δ d := fun W R P q =>
  EvX.weak (ev_call takesF F hr hm hk hb (ha _ _ _ (hS P q)) hg hdb he hpl)
end

/-! ### operations by data -/
section
variable {K : PySem.W.Frag} {I : Iv K} {x y z d : D} {i j : Int}
theorem p2_I0 {g : Int → Int → V} {z : D} (h : ∀ G, Rep K G z (g i j)) : P2 K I (rI0 g) (.int i) (.int j) z := fun P p G H v w Q s hI r1 r2 q => ⟨i, j, r1, r2, q _ z G H I (Same.refl G) s hI (h G) p⟩
theorem p2_I {C : Int → Int → Prop} {g : Int → Int → V} {z : D} (h : ∀ G, Rep K G z (g i j)) (c : C i j) : P2 K I (rI C g) (.int i) (.int j) z := fun P p G H v w Q s hI r1 r2 q => ⟨i, j, r1, r2, c, q _ z G H I (Same.refl G) s hI (h G) p⟩
theorem p2_add : P2 K I (rI0 fun i j => .int (i + j)) (.int i) (.int j) (.int (i + j)) := p2_I0 fun _ => rfl
theorem p2_sub : P2 K I (rI0 fun i j => .int (i - j)) (.int i) (.int j) (.int (i - j)) := p2_I0 fun _ => rfl
theorem p2_mul (h : CMul i j) : P2 K I (rI CMul fun i j => .int (i * j)) (.int i) (.int j) (.int (i * j)) := p2_I (fun _ => rfl) h
theorem p2_fdiv (h : CDivN i j) : P2 K I (rI CDivN fun i j => .int (i.fdiv j)) (.int i) (.int j) (.int (i.fdiv j)) := p2_I (fun _ => rfl) h
theorem p2_mod (h : j ≠ 0) : P2 K I (rI (fun _ j => j ≠ 0) fun i j => .int (i.fmod j)) (.int i) (.int j) (.int (i.fmod j)) := p2_I (fun _ => rfl) h
theorem p2_pow (h : CPow i j) : P2 K I (rI CPow fun i j => .int (i ^ j.toNat)) (.int i) (.int j) (.int (i ^ j.toNat)) := p2_I (fun _ => rfl) h
theorem p2_lt : P2 K I (rI0 fun i j => .bl (decide (i < j))) (.int i) (.int j) (.bl (decide (i < j))) := p2_I0 fun _ => rfl
theorem p2_le : P2 K I (rI0 fun i j => .bl (decide (i ≤ j))) (.int i) (.int j) (.bl (decide (i ≤ j))) := p2_I0 fun _ => rfl
theorem p2_gt : P2 K I (rI0 fun i j => .bl (decide (j < i))) (.int i) (.int j) (.bl (decide (j < i))) := p2_I0 fun _ => rfl
theorem p2_ge : P2 K I (rI0 fun i j => .bl (decide (j ≤ i))) (.int i) (.int j) (.bl (decide (j ≤ i))) := p2_I0 fun _ => rfl
/-- texts -/
def rAddT : R2 := fun x y H Q => ∃ i j, x = .str i ∧ y = .str j ∧ i.length + j.length ≤ sizeLine ∧ Q (.str (i ++ j)) H
/-- plain values -/
def flatD : D → Option V
  | .non => some .non
  | .bl b => some (.bl b)
  | .int i => some (.int i)
  | .str s => some (.str s)
  | .ty n => some (.ty n)
  | _ => none
theorem Rep.flat {G : Hp} {v u : V} : ∀ {d : D}, Rep K G d v → flatD d = some u → v = u
  | .non, r, h => by cases h; exact r
  | .bl _, r, h => by cases h; exact r
  | .int _, r, h => by cases h; exact r
  | .str _, r, h => by cases h; exact r
  | .ty _, r, h => by cases h; exact r
  | .adr _, _, h => by cases h
  | .tup _, _, h => by cases h
  | .lst _, _, h => by cases h
  | .lsf _, _, h => by cases h
  | .slo _ _, _, h => by cases h
  | .exc _ _ _ _ _, _, h => by cases h
theorem p2_eq {v u : V} {b : Bool} (hx : flatD x = some v) (hy : flatD y = some u) (hs : scal v u = true) (hb : decide (v = u) = b) : P2 K I rEq x y (.bl b) := fun P p G H v' w Q s hI r1 r2 q => by
  rw [r1.flat hx, r2.flat hy]
  exact ⟨hs, by rw [hb]; exact q _ (.bl b) G H I (Same.refl G) s hI rfl p⟩
theorem p2_ne {v u : V} {b : Bool} (hx : flatD x = some v) (hy : flatD y = some u) (hs : scal v u = true) (hb : (!decide (v = u)) = b) : P2 K I rNe x y (.bl b) := fun P p G H v' w Q s hI r1 r2 q => by
  rw [r1.flat hx, r2.flat hy]
  exact ⟨hs, by rw [hb]; exact q _ (.bl b) G H I (Same.refl G) s hI rfl p⟩
theorem eqV_str (s t : Str) : P2 K I rEq (.str s) (.str t) (.bl (decide (s = t))) := p2_eq rfl rfl rfl (by simp)
theorem neV_str (s t : Str) : P2 K I rNe (.str s) (.str t) (.bl (!decide (s = t))) := p2_ne rfl rfl rfl (by simp)
theorem eqV_int (s t : Int) : P2 K I rEq (.int s) (.int t) (.bl (decide (s = t))) := p2_eq rfl rfl rfl (by simp)
theorem neV_int (s t : Int) : P2 K I rNe (.int s) (.int t) (.bl (!decide (s = t))) := p2_ne rfl rfl rfl (by simp)
/-- an item -/
theorem atI_map {α β : Type} (f : α → β) (xs : List α) (i : Int) : atI (xs.map f) i = (atI xs i).map f := by
  unfold atI
  rw [List.length_map]
  cases ixN xs.length i with
  | none => rfl
  | some j => show (xs.map f)[j]? = (xs[j]?).map f; rw [List.getElem?_map]
theorem atI_rep {G : Hp} {ds : List D} {vs : List V} (r : Reps K G ds vs) (h : atI ds i = some d) : ∃ v, atI vs i = some v ∧ Rep K G d v := by
  unfold atI at h ⊢
  rw [r.length]
  cases e : ixN ds.length i with
  | none => rw [e] at h; cases h
  | some j =>
    rw [e] at h
    exact r.get (show ds[j]? = some d from h)
theorem p2_ixL {ds : List D} (h : atI ds i = some d) : P2 K I (rIxL K) (.lst ds) (.int i) d := fun P p G H v w Q s hI ⟨a, vs, e1, e2, e3⟩ r2 q => by
  obtain ⟨u, h1, h2⟩ := atI_rep e3 h
  exact ⟨a, vs, i, u, e1, r2, SqL.of (s _ _ e2), h1, q u d G H I (Same.refl G) s hI h2 p⟩
theorem p2_ixT {ds : List D} (h : atI ds i = some d) : P2 K I (rIxT K) (.tup ds) (.int i) d := fun P p G H v w Q s hI ⟨a, vs, e1, e2, e3⟩ r2 q => by
  obtain ⟨u, h1, h2⟩ := atI_rep e3 h
  exact ⟨a, vs, i, u, e1, r2, sqT_mono s e2, h1, q u d G H I (Same.refl G) s hI h2 p⟩
theorem p2_ixS {z : Str} {c : Nat} (hl : z.length ≤ sizeLine) (h : atI z.cps.toList i = some c) : P2 K I rIxS (.str z) (.int i) (.str ⟨#[c]⟩) := fun P p G H v w Q s hI r1 r2 q =>
  ⟨z, i, c, r1, r2, hl, h, q _ (.str ⟨#[c]⟩) G H I (Same.refl G) s hI rfl p⟩
/-- in a list, a tuple of plain things -/
def flatDs : List D → Option (List V)
  | [] => some []
  | d :: ds => match flatD d, flatDs ds with
    | some v, some vs => some (v :: vs)
    | _, _ => none
theorem Reps.flat {G : Hp} : ∀ {ds : List D} {vs us : List V}, Reps K G ds vs → flatDs ds = some us → vs = us
  | [], vs, us, r, h => by
    have e : ([] : List V) = us := Option.some.inj h
    rw [← e]
    exact r
  | d :: ds, vs, us, ⟨v, r, e1, e2, e3⟩, h => by
    unfold flatDs at h
    cases h1 : flatD d with
    | none => rw [h1] at h; cases h
    | some u =>
      cases h2 : flatDs ds with
      | none => rw [h1, h2] at h; cases h
      | some us' =>
        rw [h1, h2] at h
        have e := Option.some.inj h
        rw [← e, e1, e2.flat h1, Reps.flat e3 h2]
theorem p2_in {ds : List D} {v : V} {us : List V} {neg b : Bool} (hx : flatD x = some v) (hy : flatDs ds = some us) (h1 : flatV v = true) (h2 : us.all flatV = true) (hb : (if neg then !inV v us else inV v us) = b) (hc : y = .lst ds ∨ y = .tup ds) : P2 K I (rIn K neg) x y (.bl b) := fun P p G H v' w Q s hI r1 r2 q => by
  have e1 := r1.flat hx
  subst e1
  have r3 : ∃ a, w = .ref a ∧ (SqL K G a us ∨ SqT K G a us) := by
    rcases hc with e | e
    · subst e
      obtain ⟨a, vs, e1, e2, e3⟩ := r2
      rw [e3.flat hy] at e2
      exact ⟨a, e1, .inl (SqL.of e2)⟩
    · subst e
      obtain ⟨a, vs, e1, e2, e3⟩ := r2
      rw [e3.flat hy] at e2
      exact ⟨a, e1, .inr e2⟩
  obtain ⟨a, ea, sq⟩ := r3
  exact ⟨a, us, ea, sq.elim (fun z => .inl (sqL_mono s z)) (fun z => .inr (sqT_mono s z)), h1, h2, by rw [hb]; exact q _ (.bl b) G H I (Same.refl G) s hI rfl p⟩
/-- calls -/
theorem pn_int : PN K I (fun xs H Q => (∃ i, xs = [.int i] ∧ Q (.int i) H) ∨ ∃ k, xs = [.bl k] ∧ Q (.int (if k then 1 else 0)) H) [.int i] (.int i) := fun P p G H vs Q s hI ⟨v, r, e1, e2, e3⟩ q =>
  .inl ⟨i, by rw [e1, show v = .int i from e2, show r = [] from e3], q _ (.int i) G H I (Same.refl G) s hI rfl p⟩
theorem pn_intB {k : Bool} : PN K I (fun xs H Q => (∃ i, xs = [.int i] ∧ Q (.int i) H) ∨ ∃ k, xs = [.bl k] ∧ Q (.int (if k then 1 else 0)) H) [.bl k] (.int (if k then 1 else 0)) := fun P p G H vs Q s hI ⟨v, r, e1, e2, e3⟩ q =>
  .inr ⟨k, by rw [e1, show v = .bl k from e2, show r = [] from e3], q _ (.int (if k then 1 else 0)) G H I (Same.refl G) s hI rfl p⟩
theorem pn_max2 : PN K I (fun xs H Q => ∃ i j, xs = [.int i, .int j] ∧ Q (.int (if j > i then j else i)) H) [.int i, .int j] (.int (if j > i then j else i)) := fun P p G H vs Q s hI ⟨v, r, e1, e2, v2, r2, e3, e4, e5⟩ q =>
  ⟨i, j, by rw [e1, e3, show v = .int i from e2, show v2 = .int j from e4, show r2 = [] from e5], q _ (.int (if j > i then j else i)) G H I (Same.refl G) s hI rfl p⟩
theorem pn_lenL {ds : List D} : PN K I (fun xs H Q => ∃ p ys, xs = [.ref p] ∧ (SqL K H p ys ∨ SqT K H p ys) ∧ Q (.int ys.length) H) [.lst ds] (.int ds.length) := fun P p G H vs Q s hI ⟨v, r, e1, ⟨a, ws, e2, e3, e4⟩, e5⟩ q =>
  ⟨a, ws, by rw [e1, e2, show r = [] from e5], .inl (SqL.of (s _ _ e3)), by rw [e4.length]; exact q _ (.int ds.length) G H I (Same.refl G) s hI rfl p⟩
theorem pn_lenT {ds : List D} : PN K I (fun xs H Q => ∃ p ys, xs = [.ref p] ∧ (SqL K H p ys ∨ SqT K H p ys) ∧ Q (.int ys.length) H) [.tup ds] (.int ds.length) := fun P p G H vs Q s hI ⟨v, r, e1, ⟨a, ws, e2, e3, e4⟩, e5⟩ q =>
  ⟨a, ws, by rw [e1, e2, show r = [] from e5], .inr (sqT_mono s e3), by rw [e4.length]; exact q _ (.int ds.length) G H I (Same.refl G) s hI rfl p⟩
theorem pn_all {bs : List Bool} : PN K I (rAll K) [.lst (bs.map D.bl)] (.bl (bs.all id)) := fun P p G H vs Q s hI ⟨v, r, e1, ⟨a, ws, e2, e3, e4⟩, e5⟩ q => by
  have e6 : ∀ {bs : List Bool} {ws : List V}, Reps K G (bs.map D.bl) ws → ws = bs.map V.bl := by
    intro bs
    induction bs with
    | nil => intro ws h; exact h
    | cons b bs ih =>
      intro ws ⟨v, r, h1, h2, h3⟩
      rw [h1, show v = .bl b from h2, ih h3]
      rfl
  refine ⟨a, bs, by rw [e1, e2, show r = [] from e5], ?_, q _ (.bl (bs.all id)) G H I (Same.refl G) s hI rfl p⟩
  rw [e6 e4] at e3
  exact SqL.of (s _ _ e3)
/-- the type of a value -/
def tyD : D → Option String
  | .non => some "NoneType"
  | .bl _ => some "bool"
  | .int _ => some "int"
  | .str _ => some "str"
  | .tup _ => some "tuple"
  | .lst _ => some "list"
  | .lsf _ => some "list"
  | _ => none
theorem tyX_of {G H : Hp} {v : V} {t : String} (s : Same G H) : ∀ {d : D}, Rep K G d v → tyD d = some t → TyX K H v (.type t)
  | .non, r, h => by cases h; rw [show v = .non from r]; exact .base .non
  | .bl _, r, h => by cases h; rw [show v = .bl _ from r]; exact .base (.bl _)
  | .int _, r, h => by cases h; rw [show v = .int _ from r]; exact .base (.int _)
  | .str _, r, h => by cases h; rw [show v = .str _ from r]; exact .base (.str _)
  | .ty _, _, h => by cases h
  | .adr _, _, h => by cases h
  | .slo _ _, _, h => by cases h
  | .exc _ _ _ _ _, _, h => by cases h
  | .tup _, ⟨a, vs, e1, e2, _⟩, h => by
    cases h
    rw [e1]
    rcases e2 with (e2 | ⟨o, e2⟩) | ⟨o, its, n, e2, e3, _⟩
    · exact .base (.tup (s _ _ e2))
    · exact .fTuple (s _ _ e2)
    · exact .kTuple e2 e3
  | .lst _, ⟨a, vs, e1, e2, _⟩, h => by
    cases h
    rw [e1]
    exact .base (.lst (s _ _ e2))
  | .lsf _, ⟨a, vs, e1, e2, _⟩, h => by
    cases h
    rw [e1]
    rcases e2 with (e2 | ⟨o, e2⟩) | ⟨o, its, n, e2, e3, _⟩
    · exact .base (.lst (s _ _ e2))
    · exact .base (.frz (s _ _ e2))
    · exact .kList e2 e3
theorem pn_isi {t u : String} {b : Bool} (h : tyD d = some t) (hb : kitB t u = some b := by decide +kernel) : PN K I (rIsi K) [d, .ty u] (.bl b) := fun P p G H vs Q s hI ⟨v, r, e1, e2, v2, r2, e3, e4, e5⟩ q =>
  ⟨v, .ty u, .type t, .type u, b, by rw [e1, e3, show v2 = .ty u from e4, show r2 = [] from e5], .ty u, tyX_of s e2 h, kit_ty hb, q _ (.bl b) G H I (Same.refl G) s hI rfl p⟩
end
end DL
set_option Elab.async false
set_option linter.all false
set_option maxRecDepth 100000
set_option maxHeartbeats 4000000
namespace DL
open PySem PySem.Spec PyProof.Rows L2

/-! ### texts -/
def rMulT : R2 := fun x y H Q => ∃ (z : Str) (n : Int), x = .str z ∧ y = .int n ∧ MulOk z n ∧ Q (.str (Txt.mul z n)) H
theorem op_mulT {X : Cx} : OpR X (binaryOp .Mult) rMulT := fun pins s σ H x y v u Q I rx ry ⟨z, n, ex, ey, ok, q⟩ => by
  subst ex ey
  obtain ⟨t, rfl⟩ := rx
  obtain ⟨t', rfl⟩ := ry
  exact SB.mul ok fun t1 k1 => ⟨.str (Txt.mul z n), H, I.tok _, ⟨_, rfl⟩, q⟩
def rAddS' : R2 := fun x y H Q => ∃ i j, x = .str i ∧ y = .str j ∧ i.length + j.length ≤ sizeLine ∧ Q (.str (i ++ j)) H
theorem op_addT {X : Cx} : OpR X (binaryOp .Add) rAddS' := op_add_str
def rSignIn : R2 := fun x y H Q => ∃ (c : Nat) (z : Str), x = .str ⟨#[c]⟩ ∧ y = .str z ∧ Q (.bl (decide (c ∈ z.cps.toList))) H
theorem op_signIn {X : Cx} : OpR X (compareOp .In) rSignIn := op_in_sign
section
variable {K : PySem.W.Frag} {I : Iv K} {x y z d : D} {i j : Int}
theorem p2_mulT {s : Str} {n : Int} (h : MulOk s n) : P2 K I rMulT (.str s) (.int n) (.str (Txt.mul s n)) := fun P p G H v w Q sm hI r1 r2 q => ⟨s, n, r1, r2, h, q _ (.str (Txt.mul s n)) G H I (Same.refl G) sm hI rfl p⟩
theorem p2_addT {s t : Str} (h : s.length + t.length ≤ 100000) : P2 K I rAddS' (.str s) (.str t) (.str (s ++ t)) := fun P p G H v w Q sm hI r1 r2 q => ⟨s, t, r1, r2, by rw [sizeLine_eq]; omega, q _ (.str (s ++ t)) G H I (Same.refl G) sm hI rfl p⟩
theorem p2_signIn {c : Nat} {s : Str} : P2 K I rSignIn (.str ⟨#[c]⟩) (.str s) (.bl (decide (c ∈ s.cps.toList))) := fun P p G H v w Q sm hI r1 r2 q => ⟨c, s, r1, r2, q _ (.bl (decide (c ∈ s.cps.toList))) G H I (Same.refl G) sm hI rfl p⟩
theorem pn_lenS {s : Str} (h : s.length ≤ 100000) : PN K I (fun xs H Q => ∃ z, xs = [.str z] ∧ z.length ≤ sizeLine ∧ Q (.int z.length) H) [.str s] (.int s.length) := fun P p G H vs Q sm hI ⟨v, r, e1, e2, e5⟩ q =>
  ⟨s, by rw [e1, show v = .str s from e2, show r = [] from e5], by rw [sizeLine_eq]; omega, q _ (.int s.length) G H I (Same.refl G) sm hI rfl p⟩
theorem p2_isN {b : Bool} {v : V} (hx : flatD x = some v) (hb : decide (v = .non) = b) : P2 K I (fun x y H Q => y = .non ∧ Q (.bl (decide (x = .non))) H) x .non (.bl b) := fun P p G H v' w Q s hI r1 r2 q => by
  rw [r1.flat hx]
  exact ⟨r2, by rw [hb]; exact q _ (.bl b) G H I (Same.refl G) s hI rfl p⟩
theorem p2_notN {b : Bool} {v : V} (hx : flatD x = some v) (hb : (!decide (v = .non)) = b) : P2 K I (fun x y H Q => y = .non ∧ Q (.bl (!decide (x = .non))) H) x .non (.bl b) := fun P p G H v' w Q s hI r1 r2 q => by
  rw [r1.flat hx]
  exact ⟨r2, by rw [hb]; exact q _ (.bl b) G H I (Same.refl G) s hI rfl p⟩
end
section
variable {X : Cx} {W : WX} {R : Rx X.K} {a b e o tg iter : Expr} {es : List Expr} {δ : DEnv} {I : Iv X.K} {P : D → Iv X.K → Prop} {pos p apos : Pos} {x : Str} {d z : D}
/-- sep.join(list of texts) -/
theorem repsStr {K : PySem.W.Frag} {G : Hp} : ∀ {ss : List Str} {vs : List V}, Reps K G (ss.map D.str) vs → vs = ss.map V.str
  | [], vs, h => h
  | s :: ss, vs, ⟨v, r, e1, e2, e3⟩ => by rw [e1, show v = .str s from e2, repsStr e3]; rfl
theorem ev_join {sep : Str} (ho : PV X I o δ (.str sep)) (h : EvX X W R e δ I fun d I1 => ∃ ss : List Str, d = .lst (ss.map D.str) ∧ (ss.map (·.length)).sum + ss.length * sep.length ≤ 16777216 ∧ P (.str (Txt.join sep ss)) I1)
    (hs : starEach [e] X.env = [(false, eval e X.env)] := by rfl) (hbase : attributeBase o "join" X.env (eval o X.env) = eval o X.env := by rfl) (hline : (apos.endLine == pos.line) = true := by rfl) : EvX X W R (.Call (.Attribute o "join" apos) [e] [] pos) δ I P := fun σ G H Q hE s hI qx q =>
  PE.wp (pe_join peC peC hs hbase hline) (ho W R (fun z I1 => z = .str sep ∧ I1 = I) ⟨rfl, rfl⟩ σ G H _ hE s hI qx fun v d G1 H1 I1 s1 t1 h1 r1 ⟨ed, ei⟩ => by
    subst ed ei
    obtain rfl : v = .str sep := r1
    refine ⟨⟨sep, rfl⟩, h σ G1 H1 _ (hE.mono s1) t1 h1 (qx.mono s1) fun w d2 G2 H2 I2 s2 t2 h2 r2 ⟨ss, e2, hz, p2⟩ => ?_⟩
    subst e2
    obtain ⟨a, vs, e3, e4, e5⟩ := r2
    have e6 := repsStr e5
    subst e6
    exact ⟨sep, a, ss, rfl, by rw [e3], .inl (SqL.of (t2 _ _ e4)), hz, q _ (.str (Txt.join sep ss)) G2 H2 I2 (s1.trans s2) t2 h2 rfl p2⟩)
/-! ### what is walked -/
theorem walk_dL {K : PySem.W.Frag} {a : Addr} {ds : List D} {vs : List V} {G : Hp} (h : SqL K G a vs) (r : Reps K G ds vs) : WalkD K (Itl K a) ds G := by
  have hl := r.length
  refine ⟨fun i G' H' s1 s2 hi => (walk_list (K := K) (a := a) (xs := vs)).goes i H' (by omega) (sqL_mono (s1.trans s2) h), fun G' H' s1 s2 => by rw [← hl]; exact walk_list.stops H' (sqL_mono (s1.trans s2) h), fun i G' H' I x H'' s1 s2 hI hi y => ?_⟩
  obtain ⟨eH, ex⟩ := (walk_list (K := K) (a := a) (xs := vs)).yields i H' x H'' (by omega) (sqL_mono (s1.trans s2) h) y
  subst eH
  obtain ⟨d, hd⟩ : ∃ d, ds[i]? = some d := ⟨ds[i], by simp [hi]⟩
  obtain ⟨v, h1, h2⟩ := r.get hd
  rw [ex] at h1
  cases h1
  exact ⟨G', Same.refl _, s2, hI, fun _ _ z => z, d, hd, h2.mono s1⟩
theorem walk_dT {K : PySem.W.Frag} {a : Addr} {ds : List D} {vs : List V} {G : Hp} (h : SqT K G a vs) (r : Reps K G ds vs) : WalkD K (Itt K a) ds G := by
  have hl := r.length
  refine ⟨fun i G' H' s1 s2 hi => (walk_tup (K := K) (a := a) (xs := vs)).goes i H' (by omega) (sqT_mono (s1.trans s2) h), fun G' H' s1 s2 => by rw [← hl]; exact walk_tup.stops H' (sqT_mono (s1.trans s2) h), fun i G' H' I x H'' s1 s2 hI hi y => ?_⟩
  obtain ⟨eH, ex⟩ := (walk_tup (K := K) (a := a) (xs := vs)).yields i H' x H'' (by omega) (sqT_mono (s1.trans s2) h) y
  subst eH
  obtain ⟨d, hd⟩ : ∃ d, ds[i]? = some d := ⟨ds[i], by simp [hi]⟩
  obtain ⟨v, h1, h2⟩ := r.get hd
  rw [ex] at h1
  cases h1
  exact ⟨G', Same.refl _, s2, hI, fun _ _ z => z, d, hd, h2.mono s1⟩
theorem ei_lst (h : EvX X W R iter δ I fun d I1 => ∃ ds, (d = .lst ds ∨ d = .lsf ds) ∧ PP ds I1) : EvI X W R tg iter δ I PP := fun σ G H RR hE s hI qx q =>
  PI.wp (pi_list peC) (h σ G H _ hE s hI qx fun v d G1 H1 I1 s1 t1 h1 r1 ⟨ds, ed, pp⟩ => by
    have k : ∃ a vs, v = .ref a ∧ SqL X.K G1 a vs ∧ Reps X.K G1 ds vs := by
      rcases ed with e | e
      · subst e
        obtain ⟨a, vs, e1, e2, e3⟩ := r1
        exact ⟨a, vs, e1, SqL.of e2, e3⟩
      · subst e
        exact r1
    obtain ⟨a, vs, e1, e2, e3⟩ := k
    exact ⟨a, e1, ⟨vs, sqL_mono t1 e2⟩, q _ ds G1 H1 I1 s1 t1 h1 (walk_dL e2 e3) pp⟩)
theorem ei_tup (h : EvX X W R iter δ I fun d I1 => ∃ ds, d = .tup ds ∧ PP ds I1) : EvI X W R tg iter δ I PP := fun σ G H RR hE s hI qx q =>
  PI.wp (pi_tup peC) (h σ G H _ hE s hI qx fun v d G1 H1 I1 s1 t1 h1 r1 ⟨ds, ed, pp⟩ => by
    subst ed
    obtain ⟨a, vs, e1, e2, e3⟩ := r1
    exact ⟨a, e1, ⟨vs, sqT_mono t1 e2⟩, q _ ds G1 H1 I1 s1 t1 h1 (walk_dT e2 e3) pp⟩)
theorem ei_str (h : EvX X W R iter δ I fun d I1 => ∃ w : Str, d = .str w ∧ PP (w.cps.toList.map fun c => D.str ⟨#[c]⟩) I1) : EvI X W R tg iter δ I PP := fun σ G H RR hE s hI qx q =>
  PI.wp (pi_str peC) (h σ G H _ hE s hI qx fun v d G1 H1 I1 s1 t1 h1 r1 ⟨w, ed, pp⟩ => by
    subst ed
    refine ⟨w, r1, q _ _ G1 H1 I1 s1 t1 h1 ⟨fun i G' H' _ _ hi => walk_str.goes i H' (by simpa using hi) trivial, fun G' H' _ _ => by rw [List.length_map, Array.length_toList]; exact walk_str.stops H' trivial, fun i G' H' I x H'' s1 s2 hI hi y => ?_⟩ pp⟩
    obtain ⟨eH, c, ec, ex⟩ := (walk_str (z := w)).yields i H' x H'' (by simpa using hi) trivial y
    subst eH ex
    exact ⟨G', Same.refl _, s2, hI, fun _ _ z => z, .str ⟨#[c]⟩, by rw [List.getElem?_map, Array.getElem?_toList, ec]; rfl, rfl⟩)
def intsFrom (lo : Int) (n : Nat) : List D := (List.range n).map fun i => D.int (lo + (i : Nat))
theorem walk_dR {K : PySem.W.Frag} {lo : Int} {n : Nat} {G : Hp} : WalkD K (Itr lo n) (intsFrom lo n) G := by
  have hl : (intsFrom lo n).length = n := by unfold intsFrom; simp
  refine ⟨fun i G' H' _ _ hi => walk_range.goes i H' (by omega) trivial, fun G' H' _ _ => by rw [hl]; exact walk_range.stops H' trivial, fun i G' H' I x H'' s1 s2 hI hi y => ?_⟩
  obtain ⟨eH, ex⟩ := (walk_range (lo := lo) (n := n)).yields i H' x H'' (by omega) trivial y
  subst eH ex
  exact ⟨G', Same.refl _, s2, hI, fun _ _ z => z, .int (lo + (i : Nat)), by unfold intsFrom; rw [List.getElem?_map, List.getElem?_range (by omega)]; rfl, rfl⟩
theorem ei_range1 (hm : X.mg "range" = none) (h : EvX X W R a δ I fun d I1 => ∃ n : Int, d = .int n ∧ n < 1000000 ∧ -1000000 < n ∧ PP (intsFrom 0 n.toNat) I1) (hg : Gl X "range" := by rfl) (hst : starEach [a] X.env = [(false, eval a X.env)] := by rfl) (hpl : (backTo pos (starEach [] X.env)).any (·.1) = false := by rfl) : EvI X W R tg (.Call (.Name "range" p) [a] [] pos) δ I PP := fun σ G H RR hE s hI qx q =>
  PI.wp (pi_range1 hg hm (pa_cons peC pa_nil hst) (hs := hst)) (h σ G H _ hE s hI qx fun v d G1 H1 I1 s1 t1 h1 r1 ⟨n, ed, b1, b2, pp⟩ => by
    subst ed
    exact ⟨n, by rw [show v = .int n from r1], by omega, by omega, q _ _ G1 H1 I1 s1 t1 h1 walk_dR pp⟩)
theorem ei_range2 (hm : X.mg "range" = none) (h : EvX X W R a δ I fun d I1 => EvX X W R b δ I1 fun d2 I2 => ∃ n m : Int, d = .int n ∧ d2 = .int m ∧ (n < 1000000 ∧ -1000000 < n ∧ m < 1000000 ∧ -1000000 < m) ∧ PP (intsFrom n (m - n).toNat) I2) (hg : Gl X "range" := by rfl) (hst : starEach [a, b] X.env = [(false, eval a X.env), (false, eval b X.env)] := by rfl) (hst2 : starEach [b] X.env = [(false, eval b X.env)] := by rfl) (hpl : (backTo pos (starEach [b] X.env)).any (·.1) = false := by rfl) : EvI X W R tg (.Call (.Name "range" p) [a, b] [] pos) δ I PP := fun σ G H RR hE s hI qx q =>
  PI.wp (pi_range2 hg hm (pa_cons peC (pa_cons peC pa_nil hst2) (by rw [hst, hst2])) (hs := hst) (hs2 := hst2)) (h σ G H _ hE s hI qx fun v d G1 H1 I1 s1 t1 h1 r1 k => k σ G1 H1 _ (hE.mono s1) t1 h1 (qx.mono s1) fun v2 d2 G2 H2 I2 s2 t2 h2 r2 ⟨n, m, ed, ed2, b1, pp⟩ => by
    subst ed ed2
    exact ⟨n, m, by rw [show v = .int n from r1, show v2 = .int m from r2], by omega, q _ _ G2 H2 I2 (s1.trans s2) t2 h2 walk_dR pp⟩)
theorem vi_lst {ds : List D} (h : PV X I iter δ (.lst ds)) : PVI X I tg iter δ ds := fun W R P p => ei_lst (h W R _ ⟨ds, .inl rfl, p⟩)
theorem vi_lsf {ds : List D} (h : PV X I iter δ (.lsf ds)) : PVI X I tg iter δ ds := fun W R P p => ei_lst (h W R _ ⟨ds, .inr rfl, p⟩)
theorem vi_tup {ds : List D} (h : PV X I iter δ (.tup ds)) : PVI X I tg iter δ ds := fun W R P p => ei_tup (h W R _ ⟨ds, rfl, p⟩)
theorem vi_str {w : Str} (h : PV X I iter δ (.str w)) : PVI X I tg iter δ (w.cps.toList.map fun c => D.str ⟨#[c]⟩) := fun W R P p => ei_str (h W R _ ⟨w, rfl, p⟩)
/-! ### comprehensions -/
/-- the tests of a comprehension -/
structure wpTs (X : Cx) (ifs : List Expr) (σ : L2.St) (H : Hp) (Q : Bool → Hp → Prop) : Prop where
  run : ∀ (pins : List (Addr × Obj)) (s : Shared), Inv X pins σ H s → wpAny (model X.prog X.w) X.A (forIn ifs true fun c r => if r = true then do let ok ← isTrue c X.env (eval c X.env); pure (ForInStep.yield ok) else pure (ForInStep.yield r)) (TP X pins σ Q) X.xe s
def EvTs (X : Cx) (W : WX) (R : Rx X.K) (ifs : List Expr) (δ : DEnv) (I : Iv X.K) (P : Bool → Iv X.K → Prop) : Prop := ∀ (σ : L2.St) (G H : Hp) (Q : Bool → Hp → Prop), EnvR X.K G δ σ → Same G H → Hd I G H → Kx X.K W σ G R → Kb X.K Q G P → wpTs X ifs σ H Q
theorem ets_nil {PB : Bool → Iv X.K → Prop} (p : PB true I) : EvTs X W R [] δ I PB := fun σ G H Q hE s hI qx q => ⟨fun pins s1 J => pts_nil.run pins s1 σ H Q J (q true G H I (Same.refl G) s hI p)⟩
theorem ets_one {c : Expr} {PB : Bool → Iv X.K → Prop} (h : EvT X W R c δ I PB) : EvTs X W R [c] δ I PB := fun σ G H Q hE s hI qx q => ⟨fun pins s1 J => (pts_one ptC).run pins s1 σ H Q J (h σ G H Q hE s hI qx q)⟩
abbrev W0 : WX := fun _ _ _ _ => False
abbrev R0 {K : PySem.W.Frag} : Rx K := fun _ _ _ => False
theorem kx0 {K : PySem.W.Frag} {σ : L2.St} {G : Hp} : Kx K W0 σ G R0 := fun _ _ _ _ _ _ _ _ _ _ _ _ z => z.elim
theorem ev_lc {elt : Expr} {ifs : List Expr} {scope : Scope} (own : List (Str × Nat)) (hN : X.N.Nodup) (ok : BlkOk X.N X.env.scope scope own)
    (h : EvI X W R tg iter δ I fun ds I1 => ds.length ≤ 1000000 ∧ ∃ (Nv : Nat → List D → Prop) (δ' : D → DEnv), Nv 0 [] ∧ (∀ i d ys, ds[i]? = some d → Nv i ys → ∃ T : Bool → Prop, (∀ (J : Iv X.K) (s : Shared) (H : Hp) (C : Addr) (cl : List (Str × Addr)) (fp : List Addr),
        BindD (X.blk s H scope (compEnvC scope cl C X.env) fp) tg d (wipeD δ (own.map (·.2))) (δ' d) (own.map (·.2)) ∧
        EvTs (X.blk s H scope (compEnvC scope cl C X.env) fp) W0 R0 ifs (δ' d) (I1.and J) fun b I2 => I2 = I1.and J ∧ T b) ∧
        (T true → ∀ (J : Iv X.K) (s : Shared) (H : Hp) (C : Addr) (cl : List (Str × Addr)) (fp : List Addr), EvX (X.blk s H scope (compEnvC scope cl C X.env) fp) W0 R0 elt (δ' d) (I1.and J) fun y I3 => I3 = I1.and J ∧ Nv (i + 1) (ys ++ [y])) ∧ (T false → Nv (i + 1) ys)) ∧
      ∀ ys, Nv ds.length ys → P (.lst ys) I1)
    (hc : X.calm = true := by rfl) (hs : ∀ x, foldedSetIterable iter X.env x = pure x := by intro _; rfl) : EvX X W R (.ListComp elt [⟨tg, iter, ifs, 0⟩] scope pos) δ I P := fun σ G H Q hE s hI qx q => by
  refine PE.wp (pe_lc (wi := wpI X tg iter) (g := fun v σ H Q => ∀ s0 H0 C cl fp, wpG (X.blk s0 H0 scope (compEnvC scope cl C X.env) fp) tg v σ H Q) (tt := fun σ H Q => ∀ s0 H0 C cl fp, wpTs (X.blk s0 H0 scope (compEnvC scope cl C X.env) fp) ifs σ H Q)
    (te := fun σ H Q => ∀ s0 H0 C cl fp, wpE (X.blk s0 H0 scope (compEnvC scope cl C X.env) fp) elt σ H Q) hc hN piC ok
    (fun s0 H0 C cl fp => ⟨fun pins s σ H v u Q J r k => (k s0 H0 C cl fp).run pins s u J r⟩) (fun s0 H0 C cl fp => ⟨fun pins s σ H Q J k => (k s0 H0 C cl fp).run pins s J⟩) (fun s0 H0 C cl fp => ⟨fun pins s σ H Q J k => (k s0 H0 C cl fp).run pins s J⟩) hs) ?_
  refine h σ G H _ hE s hI qx fun J ds G1 H1 I1 s1 t1 h1 wk ⟨hz, Nv, δ', n0, step, fin⟩ D hD => ?_
  have gD : G1 D = none := t1.free hD
  have apart : ∀ a, ¬ (I1.F a ∧ a = D) := fun a ha => h1.dom ha.1 (by rw [ha.2]; exact hD)
  refine ⟨fun i m H' => m = ds.length - i ∧ i ≤ ds.length ∧ ∃ ys G', Nv i ys ∧ ys.length ≤ i ∧ Same G1 G' ∧ Same G' H' ∧ Hd (I1.and (iLst X.K D ys)) G' H', ⟨_, rfl, Nat.zero_le _, [], G1, n0, Nat.le_refl _, Same.refl _, same_upd t1 gD, ?_⟩, ?_⟩
  · exact Hd.mk2 (h1.newp hD) ⟨⟨_, upd_same, [], rfl, rfl⟩, fun a ha => by rw [show a = D from ha]; exact gD⟩ apart
  · rintro i m H' ⟨rfl, hi, ys, G', nv, hy, s2, t2, hd2⟩
    by_cases hlt : i < ds.length
    · refine .inr ⟨wk.go i G' H' s2 t2 hlt, fun H3 => ∃ ys3 G3, Nv (i + 1) ys3 ∧ ys3.length ≤ i + 1 ∧ Same G1 G3 ∧ Same G3 H3 ∧ Hd (I1.and (iLst X.K D ys3)) G3 H3, fun H3 ⟨ys3, G3, q1, q2, q3, q4, q5⟩ => ⟨ds.length - (i + 1), by omega, rfl, hlt, ys3, G3, q1, q2, q3, q4, q5⟩, fun x H3 hyl => ?_⟩
      obtain ⟨G3, s3, t3, h3, _, d, hd, rd⟩ := wk.yld i G' H' _ x H3 s2 t2 hd2 hlt hyl
      obtain ⟨T, stA, stB, stC⟩ := step i d ys hd nv
      intro s0 H0 C cl fp
      refine (stA (iLst X.K D ys) s0 H0 C cl fp).1 x _ G3 H3 _ (((hE.mono s1).mono (s2.trans s3)).wipe _) t3 rd fun σ4 e4 ew => ⟨by rw [ew, wipe_wipe], ?_⟩
      intro s0 H0 C cl fp
      refine (stA (iLst X.K D ys) s0 H0 C cl fp).2 σ4 G3 H3 _ e4 t3 h3 kx0 fun b G4 H4 I4 s4 t4 h4 ⟨eI, pb⟩ => ?_
      subst eI
      cases b with
      | false => exact ⟨ys, G4, stC pb, by omega, (s2.trans s3).trans s4, t4, h4⟩
      | true =>
        intro s0 H0 C cl fp
        refine stB pb (iLst X.K D ys) s0 H0 C cl fp σ4 G4 H4 _ (e4.mono s4) t4 h4 kx0 fun y dy G5 H5 I5 s5 t5 h5 r5 ⟨eI, nv5⟩ => ?_
        subst eI
        obtain ⟨o, ho, vs, ev, rv⟩ := h5.right.ph
        subst ev
        have g5 : G5 D = none := h5.right.fr D rfl
        refine ⟨vs, ho, ?_, ys ++ [dy], G5, nv5, by simp; omega, ((s2.trans s3).trans s4).trans s5, same_upd t5 g5, ?_⟩
        · rw [rv.length, sizeLine_eq]; omega
        · refine Hd.mk2 (h5.left.chg fun hf => apart D ⟨hf, rfl⟩) ⟨⟨_, upd_same, _, rfl, rv.append (Reps.one r5)⟩, h5.right.fr⟩ apart
    · have ei : i = ds.length := by omega
      subst ei
      obtain ⟨o, ho, vs, ev, rv⟩ := hd2.right.ph
      subst ev
      have g5 : G' D = none := hd2.right.fr D rfl
      refine .inl ⟨wk.stop G' H' s2 t2, q (.ref D) (.lst ys) (upd G' D (.lst vs)) H' I1 ((s1.trans s2).trans (Evl.Ex.new g5)) (same_freeze t2 ho) ?_ ⟨D, vs, rfl, upd_same, rv.mono (Evl.Ex.new g5)⟩ (fin ys nv)⟩
      exact ⟨I1.loc G' _ H' H' (Evl.Ex.new g5) (fun _ _ => rfl) hd2.left.ph, fun a ha => by rw [upd_ne fun e => apart a ⟨ha, e⟩]; exact hd2.left.fr a ha⟩
end
end DL
set_option Elab.async false
set_option linter.all false
set_option maxRecDepth 100000
set_option maxHeartbeats 4000000
namespace DL
open PySem PySem.Spec PyProof.Rows L2

/-! ### lists that may change -/
section
variable {K : PySem.W.Frag} {G H : Hp} {p : Addr} {ds : List D} {c : Rc K}
theorem Hd.lst (h : Hd (c.fill (iLst K p ds)) G H) : ∃ vs, H p = some (.lst vs) ∧ Reps K G ds vs ∧ G p = none := by
  have q := h.inner
  obtain ⟨o, ho, vs, ev, r⟩ := q.ph
  subst ev
  exact ⟨vs, ho, r, q.fr p rfl⟩
theorem Hd.lstSet {es : List D} {ws : List V} (h : Hd (c.fill (iLst K p ds)) G H) (r : Reps K G es ws) : Hd (c.fill (iLst K p es)) G (upd H p (.lst ws)) :=
  Hd.change (I := iLst K p ds) (I' := iLst K p es) (fun _ => Iff.rfl) (fun a ha => upd_ne ha) ⟨⟨_, upd_same, ws, rfl, r⟩, h.inner.fr⟩ h
end
section
variable {X : Cx} {W : WX} {R : Rx X.K} {a b e o : Expr} {es : List Expr} {δ : DEnv} {I : Iv X.K} {P : D → Iv X.K → Prop} {pos q' : Pos} {x : Str} {d z : D} {p : Addr} {ds : List D} {i : Int} {κ : Ko X.K}
theorem p2_ixM {K : PySem.W.Frag} {I : Iv K} (c : Rc K) (h : atI ds i = some d) (eI : I = c.fill (iLst K p ds) := by rfl) : P2 K I (rIxL K) (.adr p) (.int i) d := fun P pp G H v w Q s hI r1 r2 q => by
  subst eI
  obtain ⟨vs, ho, r, _⟩ := hI.lst
  obtain ⟨u, h1, h2⟩ := atI_rep r h
  exact ⟨p, vs, i, u, r1, r2, SqL.of ho, h1, q u d G H _ (Same.refl G) s hI h2 pp⟩
theorem pn_lenM {K : PySem.W.Frag} {I : Iv K} (c : Rc K) (eI : I = c.fill (iLst K p ds) := by rfl) : PN K I (fun xs H Q => ∃ p ys, xs = [.ref p] ∧ (SqL K H p ys ∨ SqT K H p ys) ∧ Q (.int ys.length) H) [.adr p] (.int ds.length) := fun P pp G H vs Q s hI ⟨v, r, e1, e2, e3⟩ q => by
  subst eI
  obtain ⟨ws, ho, rw', _⟩ := hI.lst
  exact ⟨p, ws, by rw [e1, show v = .ref p from e2, show r = [] from e3], .inl (SqL.of ho), by rw [rw'.length]; exact q _ (.int ds.length) G H _ (Same.refl G) s hI rfl pp⟩
/-- a new list of two: changing ++ kept -/
theorem p2_catMK {K : PySem.W.Frag} {I : Iv K} (c : Rc K) {es : List D} (hz : ds.length + es.length ≤ 100000) (eI : I = c.fill (iLst K p ds) := by rfl) : P2 K I rCat (.adr p) (.lst es) (.lst (ds ++ es)) := fun P pp G H v w Q s hI r1 ⟨b, zs, e1, e2, e3⟩ q => by
  subst eI
  obtain ⟨vs, ho, r, _⟩ := hI.lst
  refine ⟨p, b, vs, zs, r1, e1, ho, s _ _ e2, by rw [r.length, e3.length, sizeLine_eq]; omega, fun n hn => ?_⟩
  have hg : G n = none := s.free hn
  exact q (.ref n) (.lst (ds ++ es)) (upd G n (.lst (vs ++ zs))) _ _ (Evl.Ex.new hg) (same_upd2 s) (hI.keep hn s) ⟨n, vs ++ zs, rfl, upd_same, (r.append e3).mono (Evl.Ex.new hg)⟩ pp
theorem p2_catKK {K : PySem.W.Frag} {I : Iv K} {fs es : List D} (hz : fs.length + es.length ≤ 100000) : P2 K I rCat (.lst fs) (.lst es) (.lst (fs ++ es)) := fun P pp G H v w Q s hI ⟨a, vs, h1, h2, r⟩ ⟨b, zs, e1, e2, e3⟩ q => by
  refine ⟨a, b, vs, zs, h1, e1, s _ _ h2, s _ _ e2, by rw [r.length, e3.length, sizeLine_eq]; omega, fun n hn => ?_⟩
  have hg : G n = none := s.free hn
  exact q (.ref n) (.lst (fs ++ es)) (upd G n (.lst (vs ++ zs))) _ _ (Evl.Ex.new hg) (same_upd2 s) (hI.keep hn s) ⟨n, vs ++ zs, rfl, upd_same, (r.append e3).mono (Evl.Ex.new hg)⟩ pp
/-- list(xs), for good or as one that may change -/
theorem on_listK {K : PySem.W.Frag} {I : Iv K} {P : D → Iv K → Prop} {fs : List D} (hd : d = .lst fs ∨ d = .lsf fs ∨ d = .tup fs) (pp : P (.lst fs) I) : OpN K (fun xs H Q => ∃ p ys, xs = [.ref p] ∧ (SqL K H p ys ∨ SqT K H p ys) ∧ ∀ l, H l = none → Q (.ref l) (upd H l (.lst ys))) [d] I P := fun G H vs Q s hI ⟨v, r, e1, e2, e3⟩ q => by
  have k : ∃ a ws, v = .ref a ∧ (SqL K H a ws ∨ SqT K H a ws) ∧ Reps K G fs ws := by
    rcases hd with e | e | e <;> subst e
    · obtain ⟨a, ws, h1, h2, h3⟩ := e2
      exact ⟨a, ws, h1, .inl (SqL.of (s _ _ h2)), h3⟩
    · obtain ⟨a, ws, h1, h2, h3⟩ := e2
      exact ⟨a, ws, h1, .inl (sqL_mono s h2), h3⟩
    · obtain ⟨a, ws, h1, h2, h3⟩ := e2
      exact ⟨a, ws, h1, .inr (sqT_mono s h2), h3⟩
  obtain ⟨a, ws, h1, h2, h3⟩ := k
  refine ⟨a, ws, by rw [e1, h1, show r = [] from e3], h2, fun n hn => ?_⟩
  have hg : G n = none := s.free hn
  exact q (.ref n) (.lst fs) (upd G n (.lst ws)) _ _ (Evl.Ex.new hg) (same_upd2 s) (hI.keep hn s) ⟨n, ws, rfl, upd_same, h3.mono (Evl.Ex.new hg)⟩ pp
theorem on_listM {K : PySem.W.Frag} {I : Iv K} {P : D → Iv K → Prop} {fs : List D} (hd : d = .lst fs ∨ d = .lsf fs ∨ d = .tup fs) (pp : ∀ n, (∀ a, ¬ (I.F a ∧ a = n)) → P (.adr n) (I.and (iLst K n fs))) : OpN K (fun xs H Q => ∃ p ys, xs = [.ref p] ∧ (SqL K H p ys ∨ SqT K H p ys) ∧ ∀ l, H l = none → Q (.ref l) (upd H l (.lst ys))) [d] I P := fun G H vs Q s hI ⟨v, r, e1, e2, e3⟩ q => by
  have k : ∃ a ws, v = .ref a ∧ (SqL K H a ws ∨ SqT K H a ws) ∧ Reps K G fs ws := by
    rcases hd with e | e | e <;> subst e
    · obtain ⟨a, ws, h1, h2, h3⟩ := e2
      exact ⟨a, ws, h1, .inl (SqL.of (s _ _ h2)), h3⟩
    · obtain ⟨a, ws, h1, h2, h3⟩ := e2
      exact ⟨a, ws, h1, .inl (sqL_mono s h2), h3⟩
    · obtain ⟨a, ws, h1, h2, h3⟩ := e2
      exact ⟨a, ws, h1, .inr (sqT_mono s h2), h3⟩
  obtain ⟨a, ws, h1, h2, h3⟩ := k
  refine ⟨a, ws, by rw [e1, h1, show r = [] from e3], h2, fun n hn => ?_⟩
  have hg : G n = none := s.free hn
  have na : ∀ a, ¬ (I.F a ∧ a = n) := fun a ha => hI.dom ha.1 (by rw [ha.2]; exact hn)
  exact q (.ref n) (.adr n) G _ (I.and (iLst K n fs)) (Same.refl G) (same_upd s hg) (Hd.mk2 (hI.newp hn) ⟨⟨_, upd_same, ws, rfl, h3⟩, fun a ha => by rw [show a = n from ha]; exact hg⟩ na) rfl (pp n na)
/-- xs[i] = e, xs may change -/
theorem s_setItem (c : Rc X.K) {j : Nat} (ho : PV X I o δ (.adr p)) (hi : PV X I b δ (.int i)) (he : PV X I e δ d) (hj : ixN ds.length i = some j) (q : κ.nx δ (c.fill (iLst X.K p (ds.set j d)))) {ps : Pos} (eI : I = c.fill (iLst X.K p ds) := by rfl)
    (hs : swapsWithSole [.Subscript o b ps] e pos.line X.env = pure false := by rfl) (hw : swappedStores [.Subscript o b ps] e X.env = pure none := by rfl) (h1 : (assignEach [.Subscript o b ps] X.env).map (·.2) = [assign (.Subscript o b ps) X.env] := by rfl)
    (hasg : ∀ v, assign (.Subscript o b ps) X.env v = (do
      let ov ← holding [v] (eval o X.env)
      let iv ← holding [v, ov] (eval b X.env)
      standAt ps
      holding [v, ov, iv] (setItem ov iv v)
      release [v, ov, iv] []) := by intro _; rfl) :
    S1 X W (.Assign [.Subscript o b ps] e pos) δ I κ := fun σ G H E hE s hI k => by
  subst eI
  exact PS.wp (ps_asg peC (pg_sub peC peC set_list (ha := hasg)) hs hw h1) (he W _ (fun z I1 => z = d ∧ I1 = c.fill (iLst X.K p ds)) ⟨rfl, rfl⟩ σ G H _ hE s hI (k.kx hE) fun v d1 G1 H1 I1 s1 t1 h1 r1 ⟨ed, ei⟩ => by
    subst ed ei
    refine ho W (κ.r δ) (fun z I1 => z = .adr p ∧ I1 = c.fill (iLst X.K p ds)) ⟨rfl, rfl⟩ σ G1 H1 _ (hE.mono s1) t1 h1 ((k.kx hE).mono s1) fun ov d2 G2 H2 I2 s2 t2 h2 r2 ⟨ed, ei⟩ => ?_
    subst ed ei
    refine hi W (κ.r δ) (fun z I1 => z = .int i ∧ I1 = c.fill (iLst X.K p ds)) ⟨rfl, rfl⟩ σ G2 H2 _ (hE.mono (s1.trans s2)) t2 h2 ((k.kx hE).mono (s1.trans s2)) fun iv d3 G3 H3 I3 s3 t3 h3 r3 ⟨ed, ei⟩ => ?_
    subst ed ei
    obtain ⟨vs, hp, rv, gp⟩ := h3.lst
    refine ⟨p, vs, i, j, r2, r3, hp, by rw [rv.length]; exact hj, ?_⟩
    exact k.nx δ σ G3 _ _ ((s1.trans s2).trans s3) (same_upd t3 gp) (h3.lstSet (rv.set ((r1.mono s2).mono s3))) (hE.mono ((s1.trans s2).trans s3)) q)
/-- xs.append(e) -/
theorem s_append (c : Rc X.K) {apos ep : Pos} (ho : PV X I o δ (.adr p)) (hI0 : I = c.fill (iLst X.K p ds)) (h : EvX X W (κ.r δ) e δ I fun d I1 => I1 = c.fill (iLst X.K p ds) ∧ ds.length < 1000000 ∧ κ.nx δ (c.fill (iLst X.K p (ds ++ [d]))))
    (hbase : attributeBase o "append" X.env (eval o X.env) = eval o X.env := by rfl)
    (hfew : ((backTo pos (starEach [e] X.env)).all (fun x => !x.1) && (backToKw pos (keywordEach [] X.env)).all (fun x => x.1.isSome) && decide ([e].length + ([] : List Keyword).length + (if ([] : List Keyword).isEmpty then 0 else 1) < 30)) = true := by rfl)
    (hline : (apos.endLine == pos.line) = true := by rfl) (hst : starEach [e] X.env = (false, eval e X.env) :: starEach [] X.env := by rfl) (hpl : (backTo pos (starEach [] X.env)).any (·.1) = false := by rfl)
    (hs : swapsWith (.Call (.Attribute o "append" apos) [e] [] pos) none ep.line X.env = pure false := by rfl) : S1 X W (.Expr (.Call (.Attribute o "append" apos) [e] [] pos) ep) δ I κ := fun σ G H E hE s hI k =>
  PS.wp (ps_expr (pe_bm PySem.F.plainAttrs_list PySem.F.slot_list_append PySem.F.type_list_append mt_append peC (pa_cons peC pa_nil hst) hbase hfew hline hst hpl) hs) (ho W (κ.r δ) (fun z I1 => z = .adr p ∧ I1 = I) ⟨rfl, rfl⟩ σ G H _ hE s hI (k.kx hE) fun v d1 G1 H1 I1 s1 t1 h1 r1 ⟨ed, ei⟩ => by
    subst ed ei hI0
    obtain ⟨vs, hp, rv, gp⟩ := h1.lst
    obtain rfl : v = .ref p := r1
    refine ⟨.inl ⟨rfl, _, .inl (.inl hp)⟩, ?_⟩
    refine h σ G1 H1 _ (hE.mono s1) t1 h1 ((k.kx hE).mono s1) fun w d2 G2 H2 I2 s2 t2 h2 r2 ⟨ei, hz, nx⟩ => ?_
    subst ei
    obtain ⟨vs2, hp2, rv2, gp2⟩ := h2.lst
    refine ⟨p, vs2, w, rfl, rfl, hp2, by rw [rv2.length, sizeLine_eq]; omega, ?_⟩
    exact k.nx δ σ G2 _ _ (s1.trans s2) (same_upd t2 gp2) (h2.lstSet (rv2.append (Reps.one r2))) (hE.mono (s1.trans s2)) nx)
/-- a list that changes no more -/
theorem freeze_lst {K : PySem.W.Frag} {I : Iv K} {G H : Hp} (s : Same G H) (h : Hd (I.and (iLst K p ds)) G H) : ∃ G', Same G G' ∧ Same G' H ∧ Hd I G' H ∧ Rep K G' (.lst ds) (.ref p) := by
  obtain ⟨o, ho, vs, ev, rv⟩ := h.right.ph
  subst ev
  have gp : G p = none := h.right.fr p rfl
  refine ⟨upd G p (.lst vs), Evl.Ex.new gp, same_freeze s ho, ⟨I.loc G _ H H (Evl.Ex.new gp) (fun _ _ => rfl) h.left.ph, fun a ha => ?_⟩, ⟨p, vs, rfl, upd_same, rv.mono (Evl.Ex.new gp)⟩⟩
  rw [upd_ne fun e => h.apart a ⟨ha, e⟩]
  exact h.left.fr a ha
theorem sx_freeze {sts : List Stmt} {i : Nat} (hd : δ[i]? = some (some (.adr p))) (h : SX X W sts (δ.set i (some (.lst ds))) I κ) : SX X W sts δ (I.and (iLst X.K p ds)) κ := fun σ G H E hE s hI k => by
  obtain ⟨G', s1, t1, h1, r⟩ := freeze_lst s hI
  obtain ⟨v, hv, rv⟩ := hE.2 i _ hd
  have ev : v = .ref p := rv
  subst ev
  have e2 := (hE.mono s1).set (i := i) r
  have e3 : σ.set i (some (.ref p)) = σ := by
    apply List.ext_getElem?
    intro j
    by_cases hj : i = j
    · subst hj
      rw [List.getElem?_set_self (List.getElem?_eq_some_iff.mp hv).1, hv]
    · rw [List.getElem?_set_ne hj]
  rw [e3] at e2
  exact h σ G' H E e2 t1 h1 (k.mono s1)
end
/-! ### the law's draws -/
def iDrC (K : PySem.W.Frag) (a b : Addr) (s k m : Int) (ns : List Int) : Iv K := (iLst K a [.int s, .adr b, .int k, .int m]).and (iLst K b (ns.map D.int))
def iDr (K : PySem.W.Frag) (a b : Addr) : Iv K where
  F := fun x => x = a ∨ x = b
  φ := fun G H => ∃ q : Int × Int × Int × List Int, (iDrC K a b q.1 q.2.1 q.2.2.1 q.2.2.2).φ G H ∧ q.2.2.2.length ≤ 63
  loc := fun G G' H H' s k ⟨q, h, hl⟩ => ⟨q, (iDrC K a b q.1 q.2.1 q.2.2.1 q.2.2.2).loc G G' H H' s k h, hl⟩
  dom := fun G H ⟨q, h, _⟩ x hx => (iDrC K a b q.1 q.2.1 q.2.2.1 q.2.2.2).dom G H h x hx
theorem iDr_of {K : PySem.W.Frag} {a b : Addr} {s k m : Int} {ns : List Int} (hl : ns.length ≤ 63) : Sub (iDrC K a b s k m ns) (iDr K a b) := ⟨fun _ => Iff.rfl, fun _ _ h => ⟨(s, k, m, ns), h, hl⟩⟩
theorem iDr_open {X : Cx} {W : WX} {a b : Addr} {sts : List Stmt} {δ : DEnv} {κ : Ko X.K} {c : Rc X.K} (h : ∀ s k m ns, ns.length ≤ 63 → SX X W sts δ (c.fill (iDrC X.K a b s k m ns)) κ) : SX X W sts δ (c.fill (iDr X.K a b)) κ := fun σ G H E hE s hI kk => by
  obtain ⟨⟨q, hq⟩, hx⟩ := Hd.opens (I := iDr X.K a b) (f := fun x : { q : Int × Int × Int × List Int // q.2.2.2.length ≤ 63 } => iDrC X.K a b x.1.1 x.1.2.1 x.1.2.2.1 x.1.2.2.2) (fun _ _ => Iff.rfl) (fun _ _ ⟨q, h, hl⟩ => ⟨⟨q, hl⟩, h⟩) hI
  exact h _ _ _ _ hq σ G H E hE s hx kk
/-- the region is said more loosely at the ends -/
def Ko.sub {K : PySem.W.Frag} (κ : Ko K) (I I' : Iv K) : Ko K := κ
end DL
set_option Elab.async false
set_option linter.all false
set_option maxRecDepth 100000
set_option maxHeartbeats 4000000
namespace DL
open PySem PySem.Spec PyProof.Rows L2

/-! ### errors: made, raised -/
/-- the fields' names and data; the last stored stands first -/
theorem FRep.of {K : PySem.W.Frag} {G : Hp} : ∀ {fs : List (Str × D)} {l : List (Str × V)}, FRep K G fs l → l.map (·.1) = fs.map (·.1) ∧ ∀ f d, fs.lookup f = some d → ∃ v, l.lookup f = some v ∧ Rep K G d v
  | [], l, h => by
    have e : l = [] := h
    subst e
    exact ⟨rfl, fun f d z => by cases z⟩
  | (x, d0) :: fs, l, ⟨v, r, e, r1, r2⟩ => by
    subst e
    obtain ⟨h1, h2⟩ := FRep.of r2
    refine ⟨by rw [List.map_cons, List.map_cons, h1], fun f d z => ?_⟩
    by_cases hf : f = x
    · subst hf
      simp [List.lookup] at z
      subst z
      exact ⟨v, by simp [List.lookup], r1⟩
    · have e : (f == x) = false := by simpa using hf
      simp only [List.lookup, e] at z ⊢
      exact h2 f d z
theorem FRep.mono {K : PySem.W.Frag} {G G' : Hp} (s : Same G G') : ∀ {fs : List (Str × D)} {l : List (Str × V)}, FRep K G fs l → FRep K G' fs l
  | [], _, h => h
  | _ :: _, _, ⟨v, r, e, r1, r2⟩ => ⟨v, r, e, r1.mono s, FRep.mono s r2⟩
/-- what an error's __init__ does: the arguments become its fields -/
def spXIC (C : Addr) (ks : List Str) : Sp := fun vs H Q _ => ∃ (a : Addr) (ws : List V), vs = .ref a :: ws ∧ ws.length = ks.length ∧ H a = some (exo a C none) ∧ ∀ (d : Addr) (H' : Hp), H d = none → d ≠ a → H' a = some (exo a C (some d)) → H' d = some (exd d (ks.zip ws).reverse) → (∀ b, b ≠ a → b ≠ d → H' b = H b) → Q .non H'
section
variable {X : Cx} {W : WX} {es : List Expr} {e : Expr} {δ : DEnv} {I : Iv X.K} {κ : Ko X.K} {pos p pos2 : Pos} {x : Str} {C fI : Addr} {fd : FuncData} {ps ks : List Str} {k : Nat}
theorem frep_zip {K : PySem.W.Frag} {G : Hp} : ∀ {ks : List Str} {ds : List D} {vs : List V}, Reps K G ds vs → ks.length = ds.length → FRep K G (ks.zip ds) (ks.zip vs)
  | [], _, _, _, _ => by simp [FRep]
  | k :: ks, [], _, _, h => by simp at h
  | k :: ks, d :: ds, _, ⟨v, r, e, r1, r2⟩, h => by
    subst e
    exact ⟨v, ks.zip r, rfl, r1, frep_zip r2 (by simpa using h)⟩
theorem frep_append {K : PySem.W.Frag} {G : Hp} : ∀ {fs gs : List (Str × D)} {l m : List (Str × V)}, FRep K G fs l → FRep K G gs m → FRep K G (fs ++ gs) (l ++ m)
  | [], _, l, m, h, t => by
    have e : l = [] := h
    subst e
    exact t
  | f :: fs, gs, l, m, ⟨v, r, e, r1, r2⟩, t => by
    subst e
    exact ⟨v, r ++ m, rfl, r1, frep_append r2 t⟩
theorem frep_rev {K : PySem.W.Frag} {G : Hp} : ∀ {fs : List (Str × D)} {l : List (Str × V)}, FRep K G fs l → FRep K G fs.reverse l.reverse
  | [], l, h => by
    have e : l = [] := h
    subst e
    exact rfl
  | f :: fs, l, ⟨v, r, e, r1, r2⟩ => by
    subst e
    rw [List.reverse_cons, List.reverse_cons]
    exact frep_append (frep_rev r2) ⟨v, [], rfl, r1, rfl⟩
/-- raise C(e, ..) -/
theorem s_raise (tk : Takes X W) (T : OexC X.K C) (iC : PySem.W.findIn X.K (.ref C) "__init__" = some (some (.ref fI))) (tI : PySem.W.typeIn X.K (.ref fI) = some (.type "function"))
    (F1 : FnOk X.prog X.w X.K X.mg X.base (L2.CX X.prog X.w) k fI fd ps (spXIC C ks)) (hr : Room (k + 1) X.A) (hb : Binds X.K fd ps []) (hm : X.mg x = some (.ref C))
    (h : EvA X W (κ.r δ) (e :: es) δ I fun ds I1 => ks.length = ds.length ∧ ds.length ≤ 10 ∧ κ.ex C (ks.zip ds).reverse δ I1) (hc : X.calm = true := by rfl) (hg : Gl X x := by rfl) (hdb : (x == ("__debug__" : Str)) = false := by decide)
    (he : starEach (e :: es) X.env = (false, eval e X.env) :: starEach es X.env := by rfl) (hpl : (backTo pos (starEach es X.env)).any (·.1) = false := by rfl) : S1 X W (.Raise (some (.Call (.Name x p) (e :: es) [] pos)) none pos2) δ I κ := fun σ G H E hE s hI kk =>
  PS.wp (ps_raise hc tk (pmk_oex T iC tI F1 hr hb .nil passL hg hm paC hdb he hpl)) (h σ G H _ hE s hI (kk.kx hE) fun vs ds G1 H1 I1 s1 t1 h1 r1 ⟨hl, hz, xx⟩ => by
    refine ⟨by rw [r1.length]; omega, fun a ha => ?_⟩
    refine ⟨a, vs ++ [], rfl, by rw [List.append_nil, r1.length, hl], upd_same, fun d H2 hd hda e1 e2 e3 => ?_⟩
    rw [upd_ne hda] at hd
    refine ⟨rfl, d, _, e1, e2, hd, ?_⟩
    have eH : upd (L2.del H2 a) d (.xd (ks.zip (vs ++ [])).reverse) = upd H1 d (.xd (ks.zip (vs ++ [])).reverse) := by
      funext b
      by_cases hb : b = d
      · subst hb; rw [upd_same, upd_same]
      · rw [upd_ne hb, upd_ne hb]
        by_cases hba : b = a
        · subst hba; rw [del_same, ha]
        · rw [del_ne hba, e3 b hba hb, upd_ne hba]
    rw [eH]
    have gd : G1 d = none := t1.free hd
    refine kk.ex C d (ks.zip ds).reverse _ δ σ (upd G1 d (.xd (ks.zip (vs ++ [])).reverse)) _ I1 (s1.trans (Evl.Ex.new gd)) (same_upd2 t1) (h1.keep hd t1) (hE.mono (s1.trans (Evl.Ex.new gd))) ?_ upd_same xx
    rw [List.append_nil]
    exact (frep_rev (frep_zip r1 hl)).mono (Evl.Ex.new gd))
end
/-! ### an error that is caught -/
theorem frep_split {K : PySem.W.Frag} {G : Hp} : ∀ {fs : List (Str × D)} {l : List (Str × V)}, FRep K G fs l → l = (fs.map (·.1)).zip (l.map (·.2)) ∧ Reps K G (fs.map (·.2)) (l.map (·.2))
  | [], l, h => by
    have e : l = [] := h
    subst e
    exact ⟨rfl, rfl⟩
  | f :: fs, l, ⟨v, r, e, r1, r2⟩ => by
    subst e
    obtain ⟨h1, h2⟩ := frep_split r2
    refine ⟨?_, ⟨v, _, rfl, r1, h2⟩⟩
    show (f.1, v) :: r = (f.1, v) :: (fs.map (·.1)).zip (r.map (·.2))
    rw [← h1]
theorem lookup_zip {K : PySem.W.Frag} {G : Hp} {f : Str} {d : D} : ∀ {ks : List Str} {ds : List D} {vs : List V}, Reps K G ds vs → (ks.zip ds).lookup f = some d → ∃ v, (ks.zip vs).lookup f = some v ∧ Rep K G d v
  | [], _, _, _, h => by simp at h
  | k :: ks, [], _, _, h => by simp at h
  | k :: ks, d0 :: ds, _, ⟨v, r, e, r1, r2⟩, h => by
    subst e
    by_cases hk : f = k
    · subst hk
      simp [List.lookup] at h
      subst h
      exact ⟨v, by simp [List.lookup], r1⟩
    · have e : (f == k) = false := by simpa using hk
      simp only [List.zip_cons_cons, List.lookup, e] at h ⊢
      exact lookup_zip r2 h
section
variable {X : Cx} {I : Iv X.K} {δ : DEnv} {e : Expr} {pos : Pos} {d : D}
/-- the error's field, in the suite -/
theorem pv_xf {a C dd : Addr} {oe : Obj} {pn : List (Addr × Obj)} {n : Str} {ks : List Str} {ds : List D} {I : Iv (X.suite a ((a, oe) :: pn)).K} (T : XfC X.K C) (hno : PySem.W.findIn X.K (.ref C) n = some none) (hz : Zc (.ref C) (some dd) oe) (hf : ∃ vs, oe.data = .fields vs)
    (he : PV (X.suite a ((a, oe) :: pn)) I e δ (.exc a C dd ks ds)) (hl : (ks.zip ds).lookup n = some d) (hb : attributeBase e n (X.suite a ((a, oe) :: pn)).env (eval e (X.suite a ((a, oe) :: pn)).env) = eval e (X.suite a ((a, oe) :: pn)).env := by rfl) : PV (X.suite a ((a, oe) :: pn)) I (.Attribute e n pos) δ d := fun W R P p σ G H Q hE s hI qx q =>
  PE.wp (pe_xf T hno hz hf peC hb) (he W R (fun z I1 => z = .exc a C dd ks ds ∧ I1 = I) ⟨rfl, rfl⟩ σ G H _ hE s hI qx fun v d1 G1 H1 I1 s1 t1 h1 r1 ⟨ed, ei⟩ => by
    subst ed ei
    obtain ⟨ev, vs, h2, h3⟩ := r1
    obtain ⟨u, h4, h5⟩ := lookup_zip h3 hl
    exact ⟨ev, rfl, dd, _, u, rfl, t1 _ _ h2, h4, q u d G1 H1 _ s1 t1 h1 h5 p⟩)
/-- isinstance(e, T) -/
def rIsX (K : PySem.W.Frag) (C a dd : Addr) : List V → Hp → VK → Prop := fun xs H Q => ∃ (c : V) (cv : Value) (b : Bool) (l : List (Str × V)), xs = [.ref a, c] ∧ H dd = some (.xd l) ∧ (∀ u, RelV c u → u = cv) ∧ PySem.W.kitOne K (.ref C) cv = some b ∧ Q (.bl b) H
theorem call_isX {a C dd : Addr} {oe : Obj} {pn : List (Addr × Obj)} (T : ExcC X.K C) (hz : Zc (.ref C) (some dd) oe) (hf : ∃ vs, oe.data = .fields vs) : CallR (X.suite a ((a, oe) :: pn)) (.builtin "isinstance") (rIsX X.K C a dd) := fun pins s σ H xs us Q J r h => by
  obtain ⟨c, cv, b, l, rfl, hd, hc, hk, q⟩ := h
  obtain ⟨u1, u2, rfl, r1, r2⟩ := vals2 r
  cases (show u1 = Value.ref a from r1)
  have e2 := hc _ r2
  subst e2
  have g1 := (J.pin (a, oe) (List.mem_append_left _ List.mem_cons_self)).1
  obtain ⟨fv, hv⟩ := hf
  obtain ⟨mA, hns, _⟩ := (show ObjOk X.prog X.w H s.heap dd (.xd l) from J.hok dd _ hd)
  obtain ⟨od, ho, _⟩ := lookIn_ns hns
  have cl : (PySem.W.clsIn X.K C).isSome = true := by
    obtain ⟨cd, hcd, _⟩ := PySem.W.any_some T.hd
    rw [hcd] <;> rfl
  have at_ : PySem.W.InstAt s.heap a oe C (some od) := ⟨g1, hz.1, by unfold PySem.W.notCls; rw [hv] <;> rfl, by rw [hz.2]; exact ho⟩
  exact PySem.W.kia_one (PySem.W.kitx_exc cl T.hg T.hk T.hs T.ha T.hn T.ht T.hm) J.kIn at_ hk (fun z => nomatch z) fun tk => ⟨.bl b, H, J.tok tk, rfl, q⟩
/-- a class as data: a built-in type | an own one, by its address -/
theorem pn_isX {K : PySem.W.Frag} {I : Iv K} {a C dd : Addr} {ks : List Str} {ds : List D} {c : D} {cv : V} {cu : Value} {b : Bool} (hc : ∀ G v, Rep K G c v → v = cv) (hu : ∀ u, RelV cv u → u = cu) (hk : PySem.W.kitOne K (.ref C) cu = some b) : PN K I (rIsX K C a dd) [.exc a C dd ks ds, c] (.bl b) := fun P p G H vs Q s hI ⟨v, r, e1, ⟨e2, ws, e6, e7⟩, v2, r2, e3, e4, e5⟩ q =>
  ⟨cv, cu, b, _, by rw [e1, e3, e2, hc _ _ e4, show r2 = [] from e5], s _ _ e6, hu, hk, q _ (.bl b) G H I (Same.refl G) s hI rfl p⟩
/-- try: .. except C0 as n: .. -/
theorem s_try {W : WX} {κ : Ko X.K} {x n : Str} {c : Value} {i : Nat} {body suite : List Stmt} {b0 : Stmt} {np pos' : Pos} (tk : Takes X W) (hN : X.N.Nodup) (hc : Names X x c)
    (h : ∀ (W' : WX) (pn : List (Addr × Obj)) (xe : Value → Shared → Prop), Takes (X.tr pn xe) W' → PassesOwn (model X.prog X.w) X.A X.env xe → SX (X.tr pn xe) W' body δ I { κ with ex := fun C fs δ' I' => ∃ b, PySem.W.exmOne X.K (.ref C) c = some b ∧
      (b = true → ∀ (a dd : Addr) (oe : Obj) (pn : List (Addr × Obj)), Zc (.ref C) (some dd) oe → (∃ vs, oe.data = .fields vs) → SX (X.suite a ((a, oe) :: pn)) W0 (b0 :: suite) (δ'.set i (some (.exc a C dd (fs.map (·.1)) (fs.map (·.2))))) I'
        { nx := fun δ'' I'' => κ.nx (δ''.set i none) I'', rt := κ.rt, bk := fun δ'' I'' => κ.bk (δ''.set i none) I'', ct := fun δ'' I'' => κ.ct (δ''.set i none) I'' }) ∧ (b = false → κ.ex C fs δ' I') })
    (hi : X.N[i]? = some n := by rfl) (hln : X.env.kindOf n = some .local := by rfl) (hs : X.stack = X.env :: X.outer := by rfl) (hf : X.env.frame = some X.env.locals := by rfl) : S1 X W (.Try body [.ExceptHandler (some (.Name x np)) (some n) (b0 :: suite) pos'] [] [] pos) δ I κ := fun σ G H E hE s hI k =>
  PS.wp (ps_try_as (i := i) (tb := fun W' D σ H => ∀ pn xe, Takes (X.tr pn xe) W' → PassesOwn (model X.prog X.w) X.A X.env xe → wpB (X.tr pn xe) body D σ H)
    (ts := fun a cls d D σ H => ∀ oe pn, Zc cls d oe → (∃ vs, oe.data = .fields vs) → wpB (X.suite a ((a, oe) :: pn)) (b0 :: suite) D σ H) (Wout := W) hs hf hN hi hln hc tk
    (fun W' pn xe tk' po => ⟨fun pins s σ H D J q => (q pn xe tk' po).run pins s J⟩) (fun a oe cls d pn hz hf => ⟨fun pins s σ H D J q => (q oe pn hz hf).run pins s J⟩)) (by
    intro pn xe tk' po
    refine h _ pn xe tk' po σ G H E hE s hI ⟨k.nx, k.rt, k.bk, k.ct, ?_⟩
    rintro C dd fs l δ' σ' G' H' I' s1 t1 h1 e1 rf hd ⟨b, hb, yes, no⟩
    refine ⟨b, hb, fun e a ha oe pn hz hf => ?_, fun e => k.ex C dd fs l δ' σ' G' H' I' s1 t1 h1 e1 rf hd (no e)⟩
    obtain ⟨el, rl⟩ := frep_split rf
    refine yes e a dd oe pn hz hf _ G' H' _ (EnvR.set (v := .ref a) e1 ⟨rfl, l.map (·.2), by rw [← el]; exact hd, rl⟩) t1 h1 ⟨fun δ5 σ5 G5 H5 I5 s5 t5 h5 r5 p5 => k.nx _ _ G5 H5 I5 (s1.trans s5) t5 h5 (r5.drop none) p5, k.rt.mono s1, fun δ5 σ5 G5 H5 I5 s5 t5 h5 r5 p5 => k.bk _ _ G5 H5 I5 (s1.trans s5) t5 h5 (r5.drop none) p5, fun δ5 σ5 G5 H5 I5 s5 t5 h5 r5 p5 => k.ct _ _ G5 H5 I5 (s1.trans s5) t5 h5 (r5.drop none) p5, ?_⟩
    intro _ _ _ _ _ _ _ _ _ _ _ _ _ _ _ z
    exact z.elim)
end
end DL
set_option Elab.async false
set_option linter.all false
set_option maxRecDepth 100000
set_option maxHeartbeats 4000000
namespace DL
open PySem PySem.Spec PyProof.Rows L2

/-! ### instances with slots -/
def ORep (K : PySem.W.Frag) (G : Hp) (os : List (Option D)) (vs : List (Option V)) : Prop := vs.length = os.length ∧ ∀ (i : Nat) (d : D), os[i]? = some (some d) → ∃ v, vs[i]? = some (some v) ∧ Rep K G d v
theorem ORep.mono {K : PySem.W.Frag} {G G' : Hp} {os : List (Option D)} {vs : List (Option V)} (s : Same G G') (h : ORep K G os vs) : ORep K G' os vs := ⟨h.1, fun i d e => by
  obtain ⟨v, h1, h2⟩ := h.2 i d e
  exact ⟨v, h1, h2.mono s⟩⟩
def iSl (K : PySem.W.Frag) (x C dx : Addr) (os : List (Option D)) : Iv K where
  F := fun a => a = x ∨ a = dx
  φ := fun G H => H dx ≠ none ∧ dx ≠ x ∧ ∃ vs, SlX.Slt H x C dx vs ∧ ORep K G os vs
  loc := fun G G' H H' s k ⟨h1, h0, vs, h2, h3⟩ => ⟨by rw [k dx (.inr rfl)]; exact h1, h0, vs, by
    have e1 := k x (.inl rfl)
    have e2 := k dx (.inr rfl)
    rcases h2 with ⟨q1, q2⟩ | ⟨q1, q2⟩
    · exact .inl ⟨by rw [e1]; exact q1, q2⟩
    · exact .inr ⟨by rw [e1]; exact q1, by rw [e2]; exact q2⟩, h3.mono s⟩
  dom := fun G H ⟨h1, _, vs, h2, _⟩ a ha => by
    rcases ha with e | e
    · subst e
      rcases h2 with ⟨q, _⟩ | ⟨q, _⟩ <;> rw [q] <;> simp
    · subst e
      exact h1
/-- the slots behind x.f = d, f in slot i -/
def putO (i : Nat) (d : D) (os : List (Option D)) : List (Option D) := (os ++ List.replicate (i + 1 - os.length) none).set i (some d)
theorem ORep.put {K : PySem.W.Frag} {G : Hp} {os : List (Option D)} {vs : List (Option V)} (h : ORep K G os vs) (i : Nat) {d : D} {v : V} (r : Rep K G d v) : ORep K G (putO i d os) (SlX.putS i v vs) := by
  unfold putO SlX.putS
  refine ⟨by simp [h.1], fun j e he => ?_⟩
  have hl : i < (os ++ List.replicate (i + 1 - os.length) none).length := by simp; omega
  by_cases hj : i = j
  · subst hj
    rw [List.getElem?_set_self hl] at he
    have e2 : d = e := by simpa using he
    subst e2
    exact ⟨v, List.getElem?_set_self (by simp; omega), r⟩
  · rw [List.getElem?_set_ne hj] at he
    by_cases ho : j < os.length
    · rw [List.getElem?_append_left ho] at he
      obtain ⟨w, h1, h2⟩ := h.2 j e he
      exact ⟨w, by rw [List.getElem?_set_ne hj, List.getElem?_append_left (by rw [h.1]; exact ho)]; exact h1, h2⟩
    · rw [List.getElem?_append_right (by omega), List.getElem?_replicate] at he
      split at he <;> cases he
section
variable {K : PySem.W.Frag} {G H : Hp} {x C dx : Addr} {os : List (Option D)} {c : Rc K} {I : Iv K}
theorem Hd.sl (h : Hd (c.fill (iSl K x C dx os)) G H) : ∃ vs, SlX.Slt H x C dx vs ∧ ORep K G os vs ∧ dx ≠ x ∧ G x = none ∧ G dx = none := by
  obtain ⟨_, h0, vs, h2, h3⟩ := h.inner.ph
  exact ⟨vs, h2, h3, h0, h.inner.fr x (.inl rfl), h.inner.fr dx (.inr rfl)⟩
theorem slH_same {vs : List (Option V)} (s : Same G H) (h1 : G x = none) (h2 : G dx = none) : Same G (SlX.slH H x C dx vs) := fun a u e => by
  rw [SlX.slH_ne (ne_of_none e h1) (ne_of_none e h2)]
  exact s a u e
theorem Hd.slSet {os' : List (Option D)} {vs' : List (Option V)} (h : Hd (c.fill (iSl K x C dx os)) G H) (r : ORep K G os' vs') : Hd (c.fill (iSl K x C dx os')) G (SlX.slH H x C dx vs') := by
  obtain ⟨_, h0, _⟩ := h.inner.ph
  refine Hd.change (I := iSl K x C dx os) (I' := iSl K x C dx os') (fun _ => Iff.rfl) (fun a ha => SlX.slH_ne (fun e => ha (.inl e)) (fun e => ha (.inr e))) ⟨⟨?_, h0, vs', SlX.slH_slt h0, r⟩, h.inner.fr⟩ h
  show SlX.slH H x C dx vs' dx ≠ none
  unfold SlX.slH
  rw [upd_ne h0, upd_same]
  simp
/-- it changes no more -/
theorem freeze_sl {ds : List D} (s : Same G H) (h : Hd (I.and (iSl K x C dx (ds.map some))) G H) : ∃ G', Same G G' ∧ Same G' H ∧ Hd I G' H ∧ Rep K G' (.slo C ds) (.ref x) := by
  obtain ⟨hd, h0, vs, h2, h3⟩ := h.right.ph
  have gx : G x = none := h.right.fr x (.inl rfl)
  have gd : G dx = none := h.right.fr dx (.inr rfl)
  obtain ⟨ox, ex⟩ : ∃ o, H x = some o := by
    rcases h2 with ⟨q, _⟩ | ⟨q, _⟩ <;> exact ⟨_, q⟩
  obtain ⟨od, ed⟩ : ∃ o, H dx = some o := Option.ne_none_iff_exists'.mp hd
  have g2 : upd G dx od x = none := by rw [upd_ne (Ne.symm h0)]; exact gx
  have sA : Same G (upd (upd G dx od) x ox) := (Evl.Ex.new gd).trans (Evl.Ex.new g2)
  have sB : Same (upd (upd G dx od) x ox) H := same_freeze (same_freeze s ed) ex
  have slt : SlX.Slt (upd (upd G dx od) x ox) x C dx vs := by
    rcases h2 with ⟨q1, q2⟩ | ⟨q1, q2⟩
    · exact .inl ⟨by rw [upd_same, ← ex]; exact q1, q2⟩
    · exact .inr ⟨by rw [upd_same, ← ex]; exact q1, by rw [upd_ne h0, upd_same, ← ed]; exact q2⟩
  -- the slots as values
  have key : ∀ {ds : List D} {vs : List (Option V)}, ORep K G (ds.map some) vs → ∃ ws, vs = ws.map some ∧ Reps K G ds ws := by
    intro ds
    induction ds with
    | nil =>
      intro vs ⟨hl, _⟩
      have e : vs = [] := List.length_eq_zero_iff.mp (by simpa using hl)
      exact ⟨[], by rw [e]; rfl, rfl⟩
    | cons d ds ih =>
      intro vs ⟨hl, hg⟩
      cases vs with
      | nil => simp at hl
      | cons v vs =>
        obtain ⟨w, h1, h2⟩ := hg 0 d rfl
        obtain ⟨ws, e1, e2⟩ := ih (vs := vs) ⟨by simpa using hl, fun i e he => by
          obtain ⟨w, q1, q2⟩ := hg (i + 1) e (by simpa using he)
          exact ⟨w, by simpa using q1, q2⟩⟩
        have e3 : v = some w := by simpa using h1
        exact ⟨w :: ws, by rw [e3, e1]; rfl, ⟨w, ws, rfl, h2, e2⟩⟩
  obtain ⟨ws, e1, e2⟩ := key h3
  subst e1
  refine ⟨_, sA, sB, ⟨I.loc G _ H H sA (fun _ _ => rfl) h.left.ph, fun a ha => ?_⟩, ⟨x, dx, ws, rfl, slt, e2.mono sA⟩⟩
  rw [upd_ne fun e => h.apart a ⟨ha, .inl e⟩, upd_ne fun e => h.apart a ⟨ha, .inr e⟩]
  exact h.left.fr a ha
end
section
variable {X : Cx} {W : WX} {R : Rx X.K} {a b e o : Expr} {es : List Expr} {δ : DEnv} {I : Iv X.K} {P : D → Iv X.K → Prop} {pos q' p : Pos} {n : Str} {d z : D} {x C dx pd : Addr} {ds : List D} {os : List (Option D)} {i : Nat} {κ : Ko X.K}
/-- o.f, for good -/
theorem pv_sl (c : SlX.SCls X.K C) (t : SlX.Slot1 X.K C n pd i) (ho : PV X I o δ (.slo C ds)) (hd : ds[i]? = some d) (hb : attributeBase o n X.env (eval o X.env) = eval o X.env := by rfl) : PV X I (.Attribute o n pos) δ d := fun W R P p σ G H Q hE s hI qx q =>
  PE.wp (SlX.pe_sl peC hb) (ho W R (fun z I1 => z = .slo C ds ∧ I1 = I) ⟨rfl, rfl⟩ σ G H _ hE s hI qx fun v d1 G1 H1 I1 s1 t1 h1 r1 ⟨ed, ei⟩ => by
    subst ed ei
    obtain ⟨y, dy, vs, e1, e2, e3⟩ := r1
    obtain ⟨u, h2, h3⟩ := e3.get hd
    exact ⟨y, C, dy, pd, vs.map some, i, u, e1, slt_mono t1 e2, c, t, by rw [List.getElem?_map, h2]; rfl, q u d G1 H1 _ s1 t1 h1 h3 p⟩)
/-- .. of one that may change -/
theorem pv_slM (k : Rc X.K) (c : SlX.SCls X.K C) (t : SlX.Slot1 X.K C n pd i) (ho : PV X I o δ (.adr x)) (hd : os[i]? = some (some d)) (hb : attributeBase o n X.env (eval o X.env) = eval o X.env := by rfl) (eI : I = k.fill (iSl X.K x C dx os) := by rfl) : PV X I (.Attribute o n pos) δ d := fun W R P p σ G H Q hE s hI qx q => by
  subst eI
  exact PE.wp (SlX.pe_sl peC hb) (ho W R (fun z I1 => z = .adr x ∧ I1 = k.fill (iSl X.K x C dx os)) ⟨rfl, rfl⟩ σ G H _ hE s hI qx fun v d1 G1 H1 I1 s1 t1 h1 r1 ⟨ed, ei⟩ => by
    subst ed ei
    obtain ⟨vs, h2, h3, _⟩ := h1.sl
    obtain ⟨u, h4, h5⟩ := h3.2 i d hd
    exact ⟨x, C, dx, pd, vs, i, u, r1, h2, c, t, h4, q u d G1 H1 _ s1 t1 h1 h5 p⟩)
/-- o.f = e -/
theorem s_slot (k : Rc X.K) (c : SlX.SCls X.K C) (t : SlX.Slot1 X.K C n pd i) (ho : PV X I o δ (.adr x)) (he : PV X I e δ d) (nx : κ.nx δ (k.fill (iSl X.K x C dx (putO i d os))))
    (hs : swapsWith e (some (.Attribute o n q')) pos.line X.env = pure false := by rfl) (eI : I = k.fill (iSl X.K x C dx os) := by rfl) : S1 X W (.Assign [.Attribute o n q'] e pos) δ I κ := fun σ G H E hE s hI kk => by
  subst eI
  exact PS.wp (SlX.ps_sl peC peC hs) (he W _ (fun z I1 => z = d ∧ I1 = k.fill (iSl X.K x C dx os)) ⟨rfl, rfl⟩ σ G H _ hE s hI (kk.kx hE) fun v d1 G1 H1 I1 s1 t1 h1 r1 ⟨ed, ei⟩ => by
    subst ed ei
    refine ho W (κ.r δ) (fun z I1 => z = .adr x ∧ I1 = k.fill (iSl X.K x C dx os)) ⟨rfl, rfl⟩ σ G1 H1 _ (hE.mono s1) t1 h1 ((kk.kx hE).mono s1) fun ov d2 G2 H2 I2 s2 t2 h2 r2 ⟨ed, ei⟩ => ?_
    subst ed ei
    obtain ⟨vs, h4, h5, h6, h7, h8⟩ := h2.sl
    exact ⟨x, C, dx, pd, vs, i, r2, h4, c, t, kk.nx δ σ G2 _ _ (s1.trans s2) (slH_same t2 h7 h8) (h2.slSet (h5.put i (r1.mono s2))) (hE.mono (s1.trans s2)) nx⟩)
/-- keywords -/
structure wpK (X : Cx) (kws : List Keyword) (σ : L2.St) (H : Hp) (Q : List V → Hp → Prop) : Prop where
  run : ∀ (pos : Pos) (pins : List (Addr × Obj)) (s : Shared), Inv X pins σ H s → wpAny (model X.prog X.w) X.A (evalAll ((backToKw pos (keywordEach kws X.env)).map (·.2))) (AP X pins σ Q) X.xe s
def EvK (X : Cx) (W : WX) (R : Rx X.K) (kws : List Keyword) (δ : DEnv) (I : Iv X.K) (P : List D → Iv X.K → Prop) : Prop := ∀ (σ : L2.St) (G H : Hp) (Q : List V → Hp → Prop), EnvR X.K G δ σ → Same G H → Hd I G H → Kx X.K W σ G R → Ka X.K Q G P → wpK X kws σ H Q
theorem pkC {kws : List Keyword} : PK X kws (wpK X kws) := ⟨fun pos pins s σ H Q I h => h.run pos pins s I⟩
theorem ek_nil {PP : List D → Iv X.K → Prop} (p : PP [] I) : EvK X W R [] δ I PP := fun σ G H Q hE s hI qx q => ⟨fun pos pins s1 J => pk_nil.run pos pins s1 σ H Q J (q [] [] G H I (Same.refl G) s hI rfl p)⟩
theorem ek_cons {PP : List D → Iv X.K → Prop} {nm : Option Str} {kpos : Pos} {kws : List Keyword} (h : EvX X W R e δ I fun d I1 => EvK X W R kws δ I1 fun ds I2 => PP (d :: ds) I2) : EvK X W R (⟨nm, e, kpos⟩ :: kws) δ I PP := fun σ G H Q hE s hI qx q => ⟨fun pos pins s1 J =>
  (pk_cons peC pkC).run pos pins s1 σ H Q J (h σ G H _ hE s hI qx fun v d G1 H1 I1 s1 t1 h1 r1 k => k σ G1 H1 _ (hE.mono s1) t1 h1 (qx.mono s1) fun vs ds G2 H2 I2 s2 t2 h2 r2 k2 => q (v :: vs) (d :: ds) G2 H2 I2 (s1.trans s2) t2 h2 ⟨v, vs, rfl, r1.mono s2, r2⟩ k2)⟩
/-- C(e, .., k = e, ..): an instance with slots, that changes no more -/
theorem ev_makeSl {x' : Str} {f : Addr} {fd : FuncData} {ps ks : List Str} {j m : Nat} {S : Spec X.K} {kws : List Keyword} {g : List Value → List Value → List Value} {gV : List V → List V → List V} (gD : List D → List D → List D) (tk : Takes X W) (M : Mk X.K C f) (F : FnOk X.prog X.w X.K X.mg X.base (L2.CX X.prog X.w) j f fd ps (spD X.K S))
    (hr : Room (j + 1) X.A) (hm : X.mg x' = some (.ref C)) (hb : KBn X.K fd ps (m + 1) ks g gV) (hgD : ∀ {G : Hp} {ds zs : List D} {vs ws : List V}, Reps X.K G ds vs → Reps X.K G zs ws → Reps X.K G (gD ds zs) (gV vs ws))
    (h : EvA X W R (e :: es) δ I fun ds I1 => EvK X W R kws δ I1 fun zs I2 => ds.length = m ∧ zs.length = ks.length ∧ ∀ y dy, (∀ a, ¬ (I2.F a ∧ (a = y ∨ a = dy))) → S (I2.and (iSl X.K y C dy [])) (gD (.adr y :: ds) zs)
      (fun v I3 => v = .non ∧ ∃ fs : List D, I3 = I2.and (iSl X.K y C dy (fs.map some)) ∧ P (.slo C fs) I2) (fun C' fs I3 => ∃ os, I3 = I2.and (iSl X.K y C dy os) ∧ R C' fs I2))
    (hg : Gl X x' := by rfl) (hdb : (x' == ("__debug__" : Str)) = false := by decide) (hall : (backToKw pos (keywordEach kws X.env)).all (·.1.isSome) = true := by rfl) (hks : (backToKw pos (keywordEach kws X.env)).filterMap (·.1) = ks := by rfl)
    (he : starEach (e :: es) X.env = (false, eval e X.env) :: starEach es X.env := by rfl) (hpl : ((backTo pos (starEach (e :: es) X.env)).any (·.1) || (backToKw pos (keywordEach kws X.env)).any (·.1.isNone)) = false := by rfl) : EvX X W R (.Call (.Name x' p) (e :: es) kws pos) δ I P := fun σ G H Q hE s hI qx q => ⟨fun pins s0 J0 => by
  refine wpAny_Call_Name_kw (ld_glob J0 hg hm ?_ hdb)
  refine PySem.W.callWith_KW (h₀ := X.base) J0.ok.mod.kin M.kp hall ?_ hpl he
  refine thn ((h σ G H (fun vs H1 => ∀ (st : Shared) (us : List Value), Inv X pins σ H1 st → Vals vs us → wpAny (model X.prog X.w) X.A (evalAll ((backToKw pos (keywordEach kws X.env)).map (·.2)))
    (fun ws st2 => X.K.In st2.heap ∧ wpAny (model X.prog X.w) X.A (call (.ref C) us (((backToKw pos (keywordEach kws X.env)).filterMap (·.1)).zip ws)) (EP X pins σ Q) X.xe st2) X.xe st) hE s hI qx ?_).run pos pins s0 J0) fun us s1 ⟨vs, H1, J1, rv, z⟩ => z s1 us J1 rv
  intro vs ds G1 H1 I1 s1 t1 h1 r1 k st1 us J1 rv
  refine thn ((k σ G1 H1 (fun zs H2 => ∀ (st : Shared) (ws : List Value), Inv X pins σ H2 st → Vals zs ws → X.K.In st.heap ∧ wpAny (model X.prog X.w) X.A (call (.ref C) us (((backToKw pos (keywordEach kws X.env)).filterMap (·.1)).zip ws)) (EP X pins σ Q) X.xe st)
    (hE.mono s1) t1 h1 (qx.mono s1) ?_).run pos pins st1 J1) fun ws s2 ⟨zs, H2, J2, rz, z⟩ => z s2 ws J2 rz
  intro zs dz G2 H2 I2 s2 t2 h2 r2 ⟨hn, hk, hS⟩ st2 ws J2 rz
  refine ⟨J2.kIn, ?_⟩
  rw [hks]
  have J3 := Inv.made (C := C) J2
  have nd : H2 st2.heap.objs.size = none := J2.hok.fresh (Nat.le_refl _)
  have ny : H2 (st2.heap.objs.size + 1) = none := J2.hok.fresh (Nat.le_succ _)
  have dn : st2.heap.objs.size ≠ st2.heap.objs.size + 1 := Nat.ne_of_lt (Nat.lt_succ_self _)
  have rs : Vals (V.ref (st2.heap.objs.size + 1) :: vs) (Value.ref (st2.heap.objs.size + 1) :: us) := .cons rfl rv
  have rel := hb.rel rs rz
  have gd : G2 st2.heap.objs.size = none := t2.free nd
  have gy : G2 (st2.heap.objs.size + 1) = none := t2.free ny
  have ny2 : upd H2 st2.heap.objs.size (.own (st2.heap.objs.size + 1)) (st2.heap.objs.size + 1) = none := by rw [upd_ne (Ne.symm dn)]; exact ny
  have na : ∀ a, ¬ (I2.F a ∧ (a = st2.heap.objs.size + 1 ∨ a = st2.heap.objs.size)) := fun a ha => ha.2.elim (fun e => h2.dom ha.1 (by rw [e]; exact ny)) (fun e => h2.dom ha.1 (by rw [e]; exact nd))
  have hd3 : Hd (I2.and (iSl X.K (st2.heap.objs.size + 1) C st2.heap.objs.size [])) G2 (upd (upd H2 st2.heap.objs.size (.own (st2.heap.objs.size + 1))) (st2.heap.objs.size + 1) (.ins C st2.heap.objs.size [])) := by
    refine Hd.mk2 ((h2.newp nd).newp ny2) ⟨⟨by rw [upd_ne dn, upd_same]; simp, dn, [], .inl ⟨upd_same, rfl⟩, rfl, fun i d z => by simp at z⟩, fun a ha => ?_⟩ na
    rcases ha with e | e
    · subst e; exact gy
    · subst e; exact gd
  refine wpAny_call (make_map (f := f) J2.kIn M.makes M.init (beq_iff_eq.mp M.fn) (codeAny_mono (F.run _ X.stack _ _ ⟨Value.ref (st2.heap.objs.size + 1) :: us, ks.zip ws⟩ _ _ (fun v H3 => v = .non ∧ Q (.ref (st2.heap.objs.size + 1)) H3) (WE W σ) (hr.make C us (ks.zip ws))
    (J3.env0.make C us (ks.zip ws)) (hb.to _ _ ws J3.kIn ?_ ?_) rel ⟨_, G2, gD (.adr (st2.heap.objs.size + 1) :: ds) dz, _, _, same_upd (same_upd t2 gd) gy, hd3, hgD (.cons rfl (r1.mono s2)) r2, hS _ _ na, ?_, ?_⟩) fun r s' hq => ?_))
  · rw [List.length_cons, ← rv.length, r1.length, hn]
  · rw [← rz.length, r2.length, hk]
  · intro v d G' H' I' s3 t3 h3 r3 ⟨ed, fs, eI, pp⟩
    subst ed eI
    obtain ⟨G4, s4, t4, h4, r4⟩ := freeze_sl t3 h3
    exact ⟨r3, q (.ref _) (.slo C fs) G4 H' I2 ((s1.trans s2).trans (s3.trans s4)) t4 h4 r4 pp⟩
  · intro C' dd fs l G' H' I' s3 t3 h3 r3 hx ⟨os, eI, pp⟩
    subst eI
    exact qx C' dd fs l G' H' I2 ((s1.trans s2).trans s3) t3 h3.left r3 hx pp
  · cases r with
    | error e => exact passAt tk σ pins _ _ e s' J3 hq
    | ok fl =>
      cases fl with
      | ret u =>
        obtain ⟨v, H', J4, rv', ev, q3⟩ := J3.after hq
        subst ev
        exact ⟨rv', ⟨V.ref (st2.heap.objs.size + 1), H', J4, rfl, q3⟩⟩
      | next => exact False.elim hq
      | brk => exact False.elim hq
      | cont => exact False.elim hq⟩
end
end DL
set_option Elab.async false
set_option linter.all false
set_option maxRecDepth 100000
set_option maxHeartbeats 4000000
namespace DL
open PySem PySem.Spec PyProof.Rows L2

/-! ### regions: one within another within another; said more loosely -/
def Rc.comp {K : PySem.W.Frag} : Rc K → Rc K → Rc K
  | .here, c' => c'
  | .l c J, c' => .l (c.comp c') J
  | .r J c, c' => .r J (c.comp c')
theorem fill_comp {K : PySem.W.Frag} {I : Iv K} (c' : Rc K) : ∀ c : Rc K, (c.comp c').fill I = c.fill (c'.fill I)
  | .here => rfl
  | .l c J => by show ((c.comp c').fill I).and J = _; rw [fill_comp c' c]; rfl
  | .r J c => by show J.and ((c.comp c').fill I) = _; rw [fill_comp c' c]; rfl
theorem Sub.trans {K : PySem.W.Frag} {I J L : Iv K} (a : Sub I J) (b : Sub J L) : Sub I L := ⟨fun x => (b.F x).trans (a.F x), fun G H h => b.φ G H (a.φ G H h)⟩
theorem Sub.assoc {K : PySem.W.Frag} {I J L : Iv K} : Sub ((I.and J).and L) (I.and (J.and L)) := ⟨fun a => ⟨fun h => h.elim (fun z => .inl (.inl z)) fun z => z.elim (fun z => .inl (.inr z)) .inr, fun h => h.elim (fun z => z.elim .inl fun z => .inr (.inl z)) fun z => .inr (.inr z)⟩,
  fun G H h => ⟨h.1.1, ⟨h.1.2.1, h.2.1, fun a ha => h.2.2 a ⟨.inr ha.1, ha.2⟩⟩, fun a ha => ha.2.elim (fun z => h.1.2.2 a ⟨ha.1, z⟩) fun z => h.2.2 a ⟨.inl ha.1, z⟩⟩⟩
theorem Sub.comm {K : PySem.W.Frag} {I J : Iv K} : Sub (I.and J) (J.and I) := ⟨fun a => ⟨Or.symm, Or.symm⟩, fun G H h => ⟨h.2.1, h.1, fun a ha => h.2.2 a ⟨ha.2, ha.1⟩⟩⟩
section
variable {X : Cx} {W : WX} {R : Rx X.K} {a b e o : Expr} {es : List Expr} {sts : List Stmt} {st : Stmt} {δ : DEnv} {I I' : Iv X.K} {P P' : D → Iv X.K → Prop} {pos p : Pos} {d z : D} {x' : Str} {κ : Ko X.K}
/-- a region said more loosely ahead | behind -/
theorem EvX.sub (s : Sub I I') (h : EvX X W R e δ I' P) : EvX X W R e δ I P := fun σ G H Q hE sm hI qx q => h σ G H Q hE sm (hI.sub s) qx q
theorem SX.sub (s : Sub I I') (h : SX X W sts δ I' κ) : SX X W sts δ I κ := fun σ G H E hE sm hI k => h σ G H E hE sm (hI.sub s) k
theorem EvX.reg (h : EvX X W R e δ I P') (k : ∀ d I', P' d I' → ∃ I'', Sub I' I'' ∧ P d I'') : EvX X W R e δ I P := fun σ G H Q hE sm hI qx q => h σ G H Q hE sm hI qx fun v d G' H' I' s1 s2 h1 r p => by
  obtain ⟨I'', s3, p'⟩ := k d I' p
  exact q v d G' H' I'' s1 s2 (h1.sub s3) r p'
theorem SX.eq (e : I = I') (h : SX X W sts δ I' κ) : SX X W sts δ I κ := e ▸ h
/-- a display of a list that may change -/
theorem ev_lstMM (h : EvA X W R es δ I fun ds I1 => ds.length ≤ 1000 ∧ ∀ p, (∀ a, ¬ (I1.F a ∧ a = p)) → P (.adr p) (I1.and (iLst X.K p ds))) : EvX X W R (.List es pos) δ I P := fun σ G H Q hE s hI qx q =>
  PE.wp (pe_lst paC) (h σ G H _ hE s hI qx fun vs ds G1 H1 I1 s1 t1 h1 r1 ⟨hl, hp⟩ => ⟨by rw [r1.length, sizeLine_eq]; omega, fun p hq => by
    have hg : G1 p = none := t1.free hq
    have na : ∀ a, ¬ (I1.F a ∧ a = p) := fun a ha => h1.dom ha.1 (by rw [ha.2]; exact hq)
    exact q (.ref p) (.adr p) G1 _ (I1.and (iLst X.K p ds)) s1 (same_upd t1 hg) (Hd.mk2 (h1.newp hq) ⟨⟨_, upd_same, vs, rfl, r1⟩, fun a ha => by rw [show a = p from ha]; exact hg⟩ na) rfl (hp p na)⟩)
/-! ### what the module's names hold -/
theorem pv_gint {i : Int} (hm : ∃ t, X.mg x' = some (.int i t)) (hg : Gl X x' := by rfl) (hdb : (x' == ("__debug__" : Str)) = false := by decide) : PV X I (.Name x' pos) δ (.int i) := by
  obtain ⟨t, ht⟩ := hm
  exact pv_g (v := .int i) ht ⟨t, rfl⟩ (fun _ => rfl) hg hdb
theorem pv_gstr {w : Str} (hm : ∃ t, X.mg x' = some (.str w t)) (hg : Gl X x' := by rfl) (hdb : (x' == ("__debug__" : Str)) = false := by decide) : PV X I (.Name x' pos) δ (.str w) := by
  obtain ⟨t, ht⟩ := hm
  exact pv_g (v := .str w) ht ⟨t, rfl⟩ (fun _ => rfl) hg hdb
/-- a tuple of plain things -/
structure GTup (K : PySem.W.Frag) (mg : Str → Option Value) (x : Str) (ds : List D) : Prop where
  ex : ∃ a vs, mg x = some (.ref a) ∧ flatDs ds = some vs ∧ ∀ G, SqT K G a vs
theorem reps_flat {K : PySem.W.Frag} {G : Hp} : ∀ {ds : List D} {vs : List V}, flatDs ds = some vs → Reps K G ds vs
  | [], vs, h => by
    have e : ([] : List V) = vs := Option.some.inj h
    rw [← e]
    exact rfl
  | d :: ds, vs, h => by
    unfold flatDs at h
    cases h1 : flatD d with
    | none => rw [h1] at h; cases h
    | some u =>
      cases h2 : flatDs ds with
      | none => rw [h1, h2] at h; cases h
      | some us =>
        rw [h1, h2] at h
        have e := Option.some.inj h
        rw [← e]
        refine ⟨u, us, rfl, ?_, reps_flat h2⟩
        cases d <;> first | (cases h1; rfl) | cases h1
theorem pv_gtup {ds : List D} (hm : GTup X.K X.mg x' ds) (hg : Gl X x' := by rfl) (hdb : (x' == ("__debug__" : Str)) = false := by decide) : PV X I (.Name x' pos) δ (.tup ds) := by
  obtain ⟨a, vs, h1, h2, h3⟩ := hm.ex
  exact pv_g (v := .ref a) h1 rfl (fun G => ⟨a, vs, rfl, h3 G, reps_flat h2⟩) hg hdb
theorem pv_gref {a : Addr} (hm : X.mg x' = some (.ref a)) (hg : Gl X x' := by rfl) (hdb : (x' == ("__debug__" : Str)) = false := by decide) : PV X I (.Name x' pos) δ (.adr a) := pv_g (v := .ref a) hm rfl (fun _ => rfl) hg hdb
end
/-- a text, or plain and no text -/
theorem str_or (d : D) {t : String} (h : tyD d = some t) : (∃ s, d = .str s) ∨ (kitB t "str" = some false ∧ ∀ s, d ≠ .str s) := by
  cases d with
  | str s => exact .inl ⟨s, rfl⟩
  | non => cases h; exact .inr ⟨by decide +kernel, fun s z => nomatch z⟩
  | bl b => cases h; exact .inr ⟨by decide +kernel, fun s z => nomatch z⟩
  | int i => cases h; exact .inr ⟨by decide +kernel, fun s z => nomatch z⟩
  | tup _ => cases h; exact .inr ⟨by decide +kernel, fun s z => nomatch z⟩
  | lst _ => cases h; exact .inr ⟨by decide +kernel, fun s z => nomatch z⟩
  | lsf _ => cases h; exact .inr ⟨by decide +kernel, fun s z => nomatch z⟩
  | _ => cases h
/-! ### the law's own draws, as specs -/
/-- a source of draws of a script -/
def sMix {K : PySem.W.Frag} (m : Int) : Spec K := fun I ds P _ => ∃ (ns : List Int) (seed : Int), ds = [.lsf (ns.map D.int), .int seed] ∧ ns.length ≤ 63 ∧ ∀ a b, P (.adr a) (I.and (iDr K a b))
/-- a number below a bound -/
def sNext {K : PySem.W.Frag} : Spec K := fun I ds P _ => ∃ (a b : Addr) (c : Rc K) (n : Int), ds = [.adr a, .int n] ∧ I = c.fill (iDr K a b) ∧ 0 < n ∧ n < 1000000 ∧ ∀ k : Int, 0 ≤ k → k < n → P (.int k) I
end DL
namespace DL
open PySem PySem.Spec PyProof.Rows L2
section
variable {X : Cx} {W : WX} {R : Rx X.K} {elt tg iter c : Expr} {ifs : List Expr} {scope : Scope} {δ : DEnv} {I : Iv X.K} {pos : Pos} {ds : List D}
theorem take_snoc {α : Type} {l : List α} {i : Nat} {x : α} (h : l[i]? = some x) : l.take (i + 1) = l.take i ++ [x] := by
  have hl := (List.getElem?_eq_some_iff.mp h).1
  rw [List.take_succ, h]
  rfl
theorem fm_yes (f : D → D) (t : D → Bool) {i : Nat} {d : D} {ys : List D} (hd : ds[i]? = some d) (e : ys = ((ds.take i).filter t).map f) (h : true = t d) : ys ++ [f d] = ((ds.take (i + 1)).filter t).map f := by
  rw [take_snoc hd, List.filter_append, List.map_append, ← e, List.filter_cons_of_pos h.symm]
  rfl
theorem fm_no (f : D → D) (t : D → Bool) {i : Nat} {d : D} {ys : List D} (hd : ds[i]? = some d) (e : ys = ((ds.take i).filter t).map f) (h : false = t d) : ys = ((ds.take (i + 1)).filter t).map f := by
  rw [take_snoc hd, List.filter_append, List.map_append, ← e, List.filter_cons_of_neg (by rw [← h]; simp)]
  simp
theorem fm_end (f : D → D) (t : D → Bool) {ys : List D} (e : ys = ((ds.take ds.length).filter t).map f) : ys = (ds.filter t).map f := by
  rw [List.take_length] at e
  exact e
theorem m_more (f : D → D) {i : Nat} {d : D} {ys : List D} (hd : ds[i]? = some d) (e : ys = (ds.take i).map f) : ys ++ [f d] = (ds.take (i + 1)).map f := by
  rw [take_snoc hd, List.map_append, ← e]
  rfl
theorem m_end (f : D → D) {ys : List D} (e : ys = (ds.take ds.length).map f) : ys = ds.map f := by
  rw [List.take_length] at e
  exact e
/-- [f x for x in ds if t x], for good -/
theorem pv_lcIf (f : D → D) (t : D → Bool) (own : List (Str × Nat)) (δ' : D → DEnv) (hi : PVI X I tg iter δ ds) (hz : ds.length ≤ 1000000)
    (hb : ∀ (d : D) (s : Shared) (H : Hp) (C : Addr) (cl : List (Str × Addr)) (fp : List Addr), BindD (X.blk s H scope (compEnvC scope cl C X.env) fp) tg d (wipeD δ (own.map (·.2))) (δ' d) (own.map (·.2)))
    (ht : ∀ d, d ∈ ds → ∀ (J : Iv X.K) (s : Shared) (H : Hp) (C : Addr) (cl : List (Str × Addr)) (fp : List Addr), PVT (X.blk s H scope (compEnvC scope cl C X.env) fp) (I.and J) c (δ' d) (t d))
    (he : ∀ d, d ∈ ds → t d = true → ∀ (J : Iv X.K) (s : Shared) (H : Hp) (C : Addr) (cl : List (Str × Addr)) (fp : List Addr), PV (X.blk s H scope (compEnvC scope cl C X.env) fp) (I.and J) elt (δ' d) (f d))
    (hN : X.N.Nodup := by assumption) (ok : blkC X.N X.env.scope scope own = true := by rfl)
    (hc : X.calm = true := by rfl) (hs : ∀ x, foldedSetIterable iter X.env x = pure x := by intro _; rfl) : PV X I (.ListComp elt [⟨tg, iter, [c], 0⟩] scope pos) δ (.lst ((ds.filter t).map f)) := fun W R P p =>
  ev_lc own hN (blkOk_by ok) (hi W R _ ⟨hz, fun i ys => ys = ((ds.take i).filter t).map f, δ', rfl, fun i d ys hd e => ⟨fun b => b = t d, fun J s H C cl fp => ⟨hb d s H C cl fp, ets_one (ht d (List.mem_of_getElem? hd) J s H C cl fp _ _ _ ⟨rfl, rfl⟩)⟩, fun e2 J s H C cl fp => he d (List.mem_of_getElem? hd) (Eq.symm e2) J s H C cl fp _ _ _ ⟨rfl, fm_yes f t hd e e2⟩, fun e2 => fm_no f t hd e e2⟩, fun ys e => fm_end f t e ▸ p⟩) hc hs
theorem pv_lcMap (f : D → D) (own : List (Str × Nat)) (δ' : D → DEnv) (hi : PVI X I tg iter δ ds) (hz : ds.length ≤ 1000000)
    (hb : ∀ (d : D) (s : Shared) (H : Hp) (C : Addr) (cl : List (Str × Addr)) (fp : List Addr), BindD (X.blk s H scope (compEnvC scope cl C X.env) fp) tg d (wipeD δ (own.map (·.2))) (δ' d) (own.map (·.2)))
    (he : ∀ d, d ∈ ds → ∀ (J : Iv X.K) (s : Shared) (H : Hp) (C : Addr) (cl : List (Str × Addr)) (fp : List Addr), PV (X.blk s H scope (compEnvC scope cl C X.env) fp) (I.and J) elt (δ' d) (f d))
    (hN : X.N.Nodup := by assumption) (ok : blkC X.N X.env.scope scope own = true := by rfl)
    (hc : X.calm = true := by rfl) (hs : ∀ x, foldedSetIterable iter X.env x = pure x := by intro _; rfl) : PV X I (.ListComp elt [⟨tg, iter, [], 0⟩] scope pos) δ (.lst (ds.map f)) := fun W R P p =>
  ev_lc own hN (blkOk_by ok) (hi W R _ ⟨hz, fun i ys => ys = (ds.take i).map f, δ', rfl, fun i d ys hd e => ⟨fun b => b = true, fun J s H C cl fp => ⟨hb d s H C cl fp, ets_nil ⟨rfl, rfl⟩⟩, fun _ J s H C cl fp => he d (List.mem_of_getElem? hd) J s H C cl fp _ _ _ ⟨rfl, m_more f hd e⟩, fun e2 => nomatch (show false = true from e2)⟩, fun ys e => m_end f e ▸ p⟩) hc hs
end
theorem pn_isiT {K : PySem.W.Frag} {I : Iv K} {d : D} {t u : String} (h : tyD d = some t) (hb : kitB t u = some true := by decide +kernel) : PN K I (rIsi K) [d, .ty u] (.bl true) := pn_isi h hb
theorem pn_isiF {K : PySem.W.Frag} {I : Iv K} {d : D} {t u : String} (h : tyD d = some t) (hb : kitB t u = some false) : PN K I (rIsi K) [d, .ty u] (.bl false) := pn_isi h hb
end DL
namespace DL
open PySem PySem.Spec PyProof.Rows L2
section
variable {X : Cx} {W : WX} {a b c : Expr} {rest : List Expr} {sts els : List Stmt} {δ : DEnv} {I : Iv X.K} {pos : Pos} {κ : Ko X.K}
theorem ww_orT (h : PVT X I a δ true) : PVW X I (.BoolOp .Or (a :: b :: rest) pos) δ true := fun W R P p => ew_or (h W R _ p)
theorem ww_orF {k : Bool} (h : PVT X I a δ false) (h2 : PVW X I (.BoolOp .Or (b :: rest) pos) δ k) : PVW X I (.BoolOp .Or (a :: b :: rest) pos) δ k := fun W R P p => ew_or (h W R _ (h2 W R P p))
theorem ww_andF (h : PVT X I a δ false) : PVW X I (.BoolOp .And (a :: b :: rest) pos) δ false := fun W R P p => ew_and (h W R _ p)
theorem ww_andT {k : Bool} (h : PVT X I a δ true) (h2 : PVW X I (.BoolOp .And (b :: rest) pos) δ k) : PVW X I (.BoolOp .And (a :: b :: rest) pos) δ k := fun W R P p => ew_and (h W R _ (h2 W R P p))
theorem pv_andF (h : PV X I a δ (.bl false)) : PV X I (.BoolOp .And (a :: b :: rest) pos) δ (.bl false) := pv_and h (fun z => nomatch z) fun _ => rfl
theorem pv_andT {z : D} (h : PV X I a δ (.bl true)) (h2 : PV X I (.BoolOp .And (b :: rest) pos) δ z) : PV X I (.BoolOp .And (a :: b :: rest) pos) δ z := pv_and h (fun _ => h2) fun z => nomatch z
theorem pv_orT (h : PV X I a δ (.bl true)) : PV X I (.BoolOp .Or (a :: b :: rest) pos) δ (.bl true) := pv_or h (fun z => nomatch z) fun _ => rfl
theorem pv_orF {z : D} (h : PV X I a δ (.bl false)) (h2 : PV X I (.BoolOp .Or (b :: rest) pos) δ z) : PV X I (.BoolOp .Or (a :: b :: rest) pos) δ z := pv_or h (fun _ => h2) fun z => nomatch z
theorem s_ifT (h : PVT X I c δ true) (h1 : SX X W sts δ I κ) : S1 X W (.If c sts els pos) δ I κ := s_ifP h (fun _ => h1) fun z => nomatch z
theorem s_ifF (h : PVT X I c δ false) (h1 : SX X W els δ I κ) : S1 X W (.If c sts els pos) δ I κ := s_ifP h (fun z => nomatch z) fun _ => h1
end
end DL
set_option Elab.async false
set_option linter.all false
set_option maxRecDepth 100000
set_option maxHeartbeats 4000000
namespace DL
open PySem PySem.Spec PyProof.Rows L2

/-! ### facts of the written part, by a look -/
def oeB (K : PySem.W.Frag) (C : Addr) : Bool := (match K.lookup C with
  | some ⟨.type "type", _, .cls cd, sl⟩ => (match cd.mro, sl.toList with
    | .ref C' :: bm, [_, _, _, _, some (.builtin n), _] => C' == C && n == "ValueError.__new__" && !cd.hasDel && cd.hasDict && HandSPX.refsVE bm
    | _, _ => false)
  | _ => false) && He.eqO (PySem.W.findIn K (.ref C) "__setattr__") (some (some (.builtin "object.__setattr__"))) && decide (PySem.W.subIn K (.ref C) (.type "BaseException") = some true) && decide (PySem.W.typeIn K (.ref C) = some (.type "type")) && PySem.W.keepIn K (.ref C)
theorem oeB_ok {K : PySem.W.Frag} {C : Addr} (h : oeB K C = true) : OexC K C := by
  unfold oeB at h
  obtain ⟨h, h5⟩ := Bool.and_eq_true_iff.mp h
  obtain ⟨h, h4⟩ := Bool.and_eq_true_iff.mp h
  obtain ⟨h, h3⟩ := Bool.and_eq_true_iff.mp h
  obtain ⟨h1, h2⟩ := Bool.and_eq_true_iff.mp h
  refine ⟨?_, He.eqO_ok h2, of_decide_eq_true h3, of_decide_eq_true h4, h5⟩
  split at h1
  · rename_i dd cd sl e
    split at h1
    · rename_i C' bm k0 k1 k2 k3 n k5 em es
      simp only [Bool.and_eq_true, beq_iff_eq, Bool.not_eq_true'] at h1
      obtain ⟨⟨⟨⟨e1, e2⟩, e3⟩, e4⟩, e5⟩ := h1
      obtain ⟨nm, bs, mro, ns, qn, hd, sn, sb, ab, col, del⟩ := cd
      dsimp only at em e3 e4
      subst e1 e2 e3 e4 em
      have esl : sl = #[k0, k1, k2, k3, some (.builtin "ValueError.__new__"), k5] := by
        apply Array.ext'
        rw [es]
      subst esl
      exact ⟨_, _, _, _, bm, _, _, _, _, _, _, _, _, _, _, e, e5⟩
    · cases h1
  · cases h1
def scB (K : PySem.W.Frag) (C : Addr) : Bool := PySem.W.plainGet K C Str.empty && PySem.W.isClsIn K C && PySem.W.plainOver K C && He.eqO (PySem.W.findIn K (.ref C) "__setattr__") (some (some (.builtin "object.__setattr__")))
theorem scB_ok {K : PySem.W.Frag} {C : Addr} (h : scB K C = true) : SlX.SCls K C := by
  obtain ⟨h, h4⟩ := Bool.and_eq_true_iff.mp h
  obtain ⟨h, h3⟩ := Bool.and_eq_true_iff.mp h
  obtain ⟨h1, h2⟩ := Bool.and_eq_true_iff.mp h
  exact ⟨h1, h2, h3, He.eqO_ok h4⟩
def slB (K : PySem.W.Frag) (C : Addr) (f : Str) (i : Nat) : Bool := He.eqO (PySem.W.findIn K (.ref C) f) (some (some (.ref (He.ma K C f)))) && He.eqO (PySem.W.specialIn K (.ref (He.ma K C f)) "__get__") (some (some (.builtin "member_descriptor.__get__"))) &&
  decide (PySem.W.takesIn K (.ref (He.ma K C f)) = some true) && decide (PySem.W.typeIn K (.ref (He.ma K C f)) = some (.type "member_descriptor")) && decide (PySem.W.slotIn K (He.ma K C f) C = some i) && decide (i < 1000)
theorem slB_ok {K : PySem.W.Frag} {C : Addr} {f : Str} {i : Nat} (h : slB K C f i = true) : SlX.Slot1 K C f (He.ma K C f) i := by
  obtain ⟨h, h6⟩ := Bool.and_eq_true_iff.mp h
  obtain ⟨h, h5⟩ := Bool.and_eq_true_iff.mp h
  obtain ⟨h, h4⟩ := Bool.and_eq_true_iff.mp h
  obtain ⟨h, h3⟩ := Bool.and_eq_true_iff.mp h
  obtain ⟨h1, h2⟩ := Bool.and_eq_true_iff.mp h
  exact ⟨He.eqO_ok h1, He.eqO_ok h2, of_decide_eq_true h3, of_decide_eq_true h4, of_decide_eq_true h5, of_decide_eq_true h6⟩
/-- an error's class and its __init__ -/
structure TExc (K : PySem.W.Frag) (mg : Str → Option Value) (x : Str) : Prop where
  g : mg x = some (.ref (He.ga K x))
  oe : OexC K (He.ga K x)
  iC : PySem.W.findIn K (.ref (He.ga K x)) "__init__" = some (some (.ref (He.ma K (He.ga K x) "__init__")))
  tI : PySem.W.typeIn K (.ref (He.ma K (He.ga K x) "__init__")) = some (.type "function")
def exB (K : PySem.W.Frag) (x : Str) : Bool := He.eqO (PySem.W.nsIn K mainGlobals x) (some (some (.ref (He.ga K x)))) && oeB K (He.ga K x) && He.eqO (PySem.W.findIn K (.ref (He.ga K x)) "__init__") (some (some (.ref (He.ma K (He.ga K x) "__init__")))) && decide (PySem.W.typeIn K (.ref (He.ma K (He.ga K x) "__init__")) = some (.type "function"))
theorem exB_ok {K : PySem.W.Frag} {h : Heap} {mg : Str → Option Value} (X : K.In h) (G : h.Ns mainGlobals mg) {x : Str} (q : exB K x = true) : TExc K mg x := by
  obtain ⟨q, h4⟩ := Bool.and_eq_true_iff.mp q
  obtain ⟨q, h3⟩ := Bool.and_eq_true_iff.mp q
  obtain ⟨h1, h2⟩ := Bool.and_eq_true_iff.mp q
  exact ⟨PySem.W.mg_of X G (He.eqO_ok h1), oeB_ok h2, He.eqO_ok h3, of_decide_eq_true h4⟩
/-- a tuple of the module's -/
theorem gtup_of {K : PySem.W.Frag} {h : Heap} {mg : Str → Option Value} (X : K.In h) (G : h.Ns mainGlobals mg) {x : Str} {ds : List D} {vs : List He.Dv} (q : He.tupB K x vs = true) (g : He.eqO (PySem.W.nsIn K mainGlobals x) (some (some (.ref (He.ga K x)))) = true) (e : flatDs ds = some (vs.map (He.Dv.v K))) : GTup K mg x ds :=
  ⟨_, _, PySem.W.mg_of X G (He.eqO_ok g), e, fun H => He.tupB_ok q H⟩
/-- texts among texts -/
theorem flatDs_str : ∀ ws : List Str, flatDs (ws.map D.str) = some (ws.map V.str)
  | [] => rfl
  | w :: ws => by
    have ih := flatDs_str ws
    show (match flatD (D.str w), flatDs (ws.map D.str) with | some v, some vs => some (v :: vs) | _, _ => none) = _
    rw [ih]
    rfl
theorem inV_str (s : Str) : ∀ ws : List Str, inV (.str s) (ws.map V.str) = decide (s ∈ ws)
  | [] => by simp [inV]
  | w :: ws => by
    have ih := inV_str s ws
    unfold inV at ih ⊢
    rw [List.map_cons, List.any_cons, ih]
    show (w == s || decide (s ∈ ws)) = decide (s ∈ w :: ws)
    by_cases h : w = s
    · subst h; simp
    · have h2 : ¬ s = w := fun e => h e.symm
      simp [h, h2]
theorem allflat_str (ws : List Str) : (ws.map V.str).all flatV = true := by
  rw [List.all_map]
  exact List.all_eq_true.mpr fun _ _ => rfl
theorem p2_inStr {K : PySem.W.Frag} {I : Iv K} {s : Str} {ws : List Str} : P2 K I (rIn K false) (.str s) (.tup (ws.map D.str)) (.bl (decide (s ∈ ws))) :=
  p2_in rfl (flatDs_str ws) rfl (allflat_str ws) (by rw [if_neg Bool.false_ne_true]; exact inV_str s ws) (.inr rfl)
theorem p2_ninStr {K : PySem.W.Frag} {I : Iv K} {s : Str} {ws : List Str} : P2 K I (rIn K true) (.str s) (.tup (ws.map D.str)) (.bl (!decide (s ∈ ws))) :=
  p2_in rfl (flatDs_str ws) rfl (allflat_str ws) (by rw [if_pos rfl, inV_str s ws]) (.inr rfl)
theorem p2_inStrL {K : PySem.W.Frag} {I : Iv K} {s : Str} {ws : List Str} : P2 K I (rIn K false) (.str s) (.lst (ws.map D.str)) (.bl (decide (s ∈ ws))) :=
  p2_in rfl (flatDs_str ws) rfl (allflat_str ws) (by rw [if_neg Bool.false_ne_true]; exact inV_str s ws) (.inl rfl)
theorem p2_ninStrL {K : PySem.W.Frag} {I : Iv K} {s : Str} {ws : List Str} : P2 K I (rIn K true) (.str s) (.lst (ws.map D.str)) (.bl (!decide (s ∈ ws))) :=
  p2_in rfl (flatDs_str ws) rfl (allflat_str ws) (by rw [if_pos rfl, inV_str s ws]) (.inl rfl)
end DL
namespace DL
open PySem PySem.Spec PyProof.Rows L2
/-- a def of the module, by its promise; dds: the defaults that fill up -/
structure Def (P : Program) (w : World) (K : PySem.W.Frag) (mg : Str → Option Value) (base : Heap) (x : Str) (k : Nat) (ps : List Str) (dds : List D) (S : Spec K) : Prop where
  ex : ∃ (f : Addr) (fd : FuncData) (dvs : List V) (us : List Value), mg x = some (.ref f) ∧ PySem.W.keepIn K (.ref f) = true ∧ FnOk P w K mg base (L2.CX P w) k f fd ps (spD K S) ∧ L2.Binds K fd ps us ∧ Vals dvs us ∧ ∀ G, Reps K G dds dvs
section
variable {P : Program} {w : World} {K : PySem.W.Frag} {mg : Str → Option Value} {base : Heap} {x qual : Str} {params : Arguments} {body : List Stmt} {scope : Scope} {f : Addr} {fd : FuncData} {ps : List Str} {k : Nat} {S : Spec K}
theorem Def.of (g : mg x = some (.ref f)) (F : FunD K x qual params body scope [] [] f fd) (ok : FnOk P w K mg base (L2.CX P w) k f fd ps (spD K S))
    (h : ∀ (kV doc pm : Value) (an : Option Addr) (cdv ct : Value) (us : List Value), us.length = ps.length → bindArgs (PySem.W.fnOf x qual params body scope .none kV doc pm an cdv ct) ⟨us, []⟩ = pure (ps.zip us)) : Def P w K mg base x k ps [] S :=
  ⟨f, fd, [], [], g, F.kp, ok, F.bindsN h, .nil, fun _ => rfl⟩
end
section
variable {X : Cx} {W : WX} {R : Rx X.K} {e : Expr} {es : List Expr} {δ : DEnv} {I : Iv X.K} {P : D → Iv X.K → Prop} {pos p : Pos} {x : Str} {ps : List Str} {k : Nat} {S : Spec X.K} {dds : List D} {ds : List D} {d : D}
theorem ev_def (tk : Takes X W) (F : Def X.prog X.w X.K X.mg X.base x k ps dds S) (hr : Room k X.A) (h : EvA X W R (e :: es) δ I fun ds I1 => S I1 (ds ++ dds) P R) (hg : Gl X x := by rfl) (hdb : (x == ("__debug__" : Str)) = false := by decide)
    (he : starEach (e :: es) X.env = (false, eval e X.env) :: starEach es X.env := by rfl) (hpl : (backTo pos (starEach es X.env)).any (·.1) = false := by rfl) : EvX X W R (.Call (.Name x p) (e :: es) [] pos) δ I P := by
  obtain ⟨f, fd, dvs, us, g, kp, ok, b, v, r⟩ := F.ex
  exact ev_callD tk ok hr g kp b v r h hg hdb he hpl
theorem pv_def (F : Def X.prog X.w X.K X.mg X.base x k ps dds S) (hr : Room k X.A) (ha : PVA X I (e :: es) δ ds) (hS : ∀ (P : D → Iv X.K → Prop), P d I → S I (ds ++ dds) P (fun _ _ _ => False)) (hg : Gl X x := by rfl) (hdb : (x == ("__debug__" : Str)) = false := by decide)
    (he : starEach (e :: es) X.env = (false, eval e X.env) :: starEach es X.env := by rfl) (hpl : (backTo pos (starEach es X.env)).any (·.1) = false := by rfl) : PV X I (.Call (.Name x p) (e :: es) [] pos) δ d := by
  obtain ⟨f, fd, dvs, us, g, kp, ok, b, v, r⟩ := F.ex
  exact pv_callD ok hr g kp b v r ha hS hg hdb he hpl
end
end DL
namespace DL
open PySem PySem.Spec PyProof.Rows L2
section
variable {X : Cx} {W : WX} {R : Rx X.K} {e : Expr} {es : List Expr} {δ : DEnv} {I : Iv X.K} {P : D → Iv X.K → Prop} {d : D} {ds : List D}
theorem PV.ev (h : PV X I e δ d) (p : P d I) : EvX X W R e δ I P := h W R P p
theorem PVA.ev {P : List D → Iv X.K → Prop} (h : PVA X I es δ ds) (p : P ds I) : EvA X W R es δ I P := h W R P p
theorem PVT.ev {P : Bool → Iv X.K → Prop} {b : Bool} (h : PVT X I e δ b) (p : P b I) : EvT X W R e δ I P := h W R P p
end
end DL
namespace DL
open PySem PySem.Spec PyProof.Rows L2
section
variable {X : Cx} {W : WX} {R : Rx X.K} {e : Expr} {es : List Expr} {δ : DEnv} {I : Iv X.K} {P : D → Iv X.K → Prop} {d : D} {ds : List D}
theorem ev_reg (h : EvX X W R e δ I fun d I' => ∃ I'', Sub I' I'' ∧ P d I'') : EvX X W R e δ I P := EvX.reg h fun _ _ z => z
theorem iDr_of2 {K : PySem.W.Frag} {J : Iv K} {a b : Addr} {s k m : Int} {ns : List Int} (hl : ns.length ≤ 63) : Sub ((J.and (iLst K b (ns.map D.int))).and (iLst K a [.int s, .adr b, .int k, .int m])) (J.and (iDr K a b)) :=
  Sub.assoc.trans (Sub.andR (Sub.comm.trans (iDr_of hl)))
end
end DL
set_option Elab.async false
set_option linter.all false
set_option maxRecDepth 100000
set_option maxHeartbeats 4000000
namespace DL
open PySem PySem.Spec PyProof.Rows L2

theorem str_ext {s t : Str} (h : s.cps.toList = t.cps.toList) : s = t := by
  obtain ⟨a⟩ := s
  obtain ⟨b⟩ := t
  exact congrArg Str.mk (Array.ext' h)
theorem str_app (s t : Str) : (s ++ t).cps.toList = s.cps.toList ++ t.cps.toList := by
  show (s.cps ++ t.cps).toList = _
  simp
theorem str_len (s : Str) : s.length = s.cps.toList.length := by
  show s.cps.size = _
  simp
def one (c : Nat) : Str := ⟨#[c]⟩
theorem join_ones (e : Str) (he : e.cps.toList = []) : ∀ cs : List Nat, Txt.join e (cs.map one) = ⟨cs.toArray⟩ := by
  intro cs
  rw [TL.join_eq]
  induction cs with
  | nil => rfl
  | cons c cs ih =>
    cases cs with
    | nil => rfl
    | cons d ds =>
      have e1 : Str.join e ((c :: d :: ds).map one) = one c ++ e ++ Str.join e ((d :: ds).map one) := by
        first
          | rfl
          | (simp only [List.map_cons, Str.join]; rfl)
      rw [e1, ih]
      apply str_ext
      rw [str_app, str_app, he]
      show [c] ++ [] ++ _ = _
      simp
section
variable {X : Cx} {W : WX} {R : Rx X.K} {e e0 e1 : Expr} {es : List Expr} {δ : DEnv} {I : Iv X.K} {P : D → Iv X.K → Prop} {d : D} {ds : List D} {pos p : Pos} {a b : Addr} {n k : Int} {K : PySem.W.Frag}
/-- an item of a written list at a drawn place -/
theorem o2_ixL {K : PySem.W.Frag} {I : Iv K} {P : D → Iv K → Prop} {ds : List D} {k : Int} (h0 : 0 ≤ k) (h1 : k < ds.length) (hp : ∀ d ∈ ds, P d I) : Op2 K (rIxL K) (.lst ds) (.int k) I P := by
  obtain ⟨j, rfl⟩ : ∃ j : Nat, k = j := ⟨k.toNat, by omega⟩
  have hj : j < ds.length := by omega
  exact p2_ixL (d := ds[j]) (by unfold atI ixN; rw [if_pos h0, if_pos h1]; simp [hj]) P (hp _ (List.getElem_mem hj))
/-- _law_next(h, n) -/
theorem ev_next {x : Str} (tk : Takes X W) (F : Def X.prog X.w X.K X.mg X.base x 1 ["_law_h", "_law_bound"] [] sNext) (hr : Room 1 X.A) (c : Rc X.K) (h0 : PV X I e0 δ (.adr a)) (h1 : EvX X W R e1 δ I fun d I1 => ∃ n, d = .int n ∧ I1 = I ∧ 0 < n ∧ n < 1000000 ∧ ∀ k : Int, 0 ≤ k → k < n → P (.int k) I) (eI : I = c.fill (iDr X.K a b))
    (hg : Gl X x := by rfl) (hdb : (x == ("__debug__" : Str)) = false := by decide)
    (he : starEach [e0, e1] X.env = (false, eval e0 X.env) :: starEach [e1] X.env := by rfl) (he2 : starEach [e1] X.env = (false, eval e1 X.env) :: starEach [] X.env := by rfl) (hpl : (backTo pos (starEach [e1] X.env)).any (·.1) = false := by rfl) : EvX X W R (.Call (.Name x p) [e0, e1] [] pos) δ I P :=
  ev_def tk F hr (ea_cons (h0.ev (ea_cons (h1.imp fun d I1 ⟨n, ed, ei, n0, n1, k⟩ => by
    subst ed
    rw [ei]
    exact ea_nil ⟨a, b, c, n, rfl, eI, n0, n1, k⟩) he2)) he) hg hdb he hpl
theorem ev_nextP {x : Str} (tk : Takes X W) (F : Def X.prog X.w X.K X.mg X.base x 1 ["_law_h", "_law_bound"] [] sNext) (hr : Room 1 X.A) (c : Rc X.K) (h0 : PV X I e0 δ (.adr a)) (h1 : PV X I e1 δ (.int n)) (eI : I = c.fill (iDr X.K a b)) (hn : 0 < n ∧ n < 1000000) (k : ∀ k : Int, 0 ≤ k → k < n → P (.int k) I)
    (hg : Gl X x := by rfl) (hdb : (x == ("__debug__" : Str)) = false := by decide)
    (he : starEach [e0, e1] X.env = (false, eval e0 X.env) :: starEach [e1] X.env := by rfl) (he2 : starEach [e1] X.env = (false, eval e1 X.env) :: starEach [] X.env := by rfl) (hpl : (backTo pos (starEach [e1] X.env)).any (·.1) = false := by rfl) : EvX X W R (.Call (.Name x p) [e0, e1] [] pos) δ I P :=
  ev_next tk F hr c h0 (h1.ev ⟨n, rfl, rfl, hn.1, hn.2, k⟩) eI hg hdb he he2 hpl
end
end DL
set_option Elab.async false
set_option linter.all false
set_option maxRecDepth 100000
set_option maxHeartbeats 4000000
namespace DL
open PySem PySem.Spec PyProof.Rows L2
section
variable {X : Cx} {W : WX} {R : Rx X.K} {st : Stmt} {rest sts els : List Stmt} {δ : DEnv} {I : Iv X.K} {κ : Ko X.K} {c a b : Expr} {pos : Pos} {PB : Bool → Iv X.K → Prop}
/-- a cut: what holds behind the statement -/
theorem s_consI (Nv : DEnv → Iv X.K → Prop) (h : S1 X W st δ I { κ with nx := Nv }) (k : ∀ δ' I', Nv δ' I' → SX X W rest δ' I' κ) : SX X W (st :: rest) δ I κ :=
  s_cons (S1.imp h (fun δ' I' p => k δ' I' p) (fun _ _ z => z) (fun _ _ z => z) (fun _ _ z => z) (fun _ _ _ _ z => z))
end
/-- isinstance of a caught error: the class's looks -/
def xcB (K : PySem.W.Frag) (C : Addr) : Bool := He.eqO (PySem.W.findIn K (.ref C) "__getattribute__") (some (some (.builtin "BaseException.__getattribute__"))) && He.eqO (PySem.W.findIn K (.ref C) "__getattr__") (some none) && decide (PySem.W.subIn K (.ref C) (.type "BaseException") = some true) && PySem.W.hasDictIn K C &&
  He.eqO (PySem.W.findIn K (.ref C) "__class__") (some (some (.builtin "object.__class__"))) && He.eqO (PySem.W.specialIn K (.builtin "object.__class__") "__get__") (some (some (.builtin "getset_descriptor.__get__"))) && decide (PySem.W.takesIn K (.builtin "object.__class__") = some true) && decide (PySem.W.mroIn K C (.type "object") = some true)
theorem xcB_ok {K : PySem.W.Frag} {C : Addr} (h : xcB K C = true) : ExcC K C := by
  obtain ⟨h, h8⟩ := Bool.and_eq_true_iff.mp h
  obtain ⟨h, h7⟩ := Bool.and_eq_true_iff.mp h
  obtain ⟨h, h6⟩ := Bool.and_eq_true_iff.mp h
  obtain ⟨h, h5⟩ := Bool.and_eq_true_iff.mp h
  obtain ⟨h, h4⟩ := Bool.and_eq_true_iff.mp h
  obtain ⟨h, h3⟩ := Bool.and_eq_true_iff.mp h
  obtain ⟨h1, h2⟩ := Bool.and_eq_true_iff.mp h
  exact ⟨He.eqO_ok h1, He.eqO_ok h2, of_decide_eq_true h3, h4, He.eqO_ok h5, He.eqO_ok h6, of_decide_eq_true h7, of_decide_eq_true h8⟩
/-- an error's class, its field's name not found in the class: as it is caught -/
structure TXf (K : PySem.W.Frag) (C : Addr) : Prop where
  xf : XfC K C
  xc : ExcC K C
def txB (K : PySem.W.Frag) (C : Addr) : Bool := xfB K C && xcB K C
theorem txB_ok {K : PySem.W.Frag} {C : Addr} (h : txB K C = true) : TXf K C := by
  obtain ⟨h1, h2⟩ := Bool.and_eq_true_iff.mp h
  exact ⟨xfB_ok h1, xcB_ok h2⟩
theorem namesG {X : Cx} {x : Str} {c : Value} (hm : X.mg x = some c) (hg : Gl X x := by rfl) (hdb : (x == ("__debug__" : Str)) = false := by decide) : Names X x c := ⟨hg, hdb, .inl hm⟩
end DL
set_option Elab.async false
set_option linter.all false
set_option maxRecDepth 100000
set_option maxHeartbeats 4000000
namespace DL
open PySem PySem.Spec PyProof.Rows L2
section
variable {X : Cx} {W : WX} {R : Rx X.K} {e e0 e1 l : Expr} {es : List Expr} {δ : DEnv} {I : Iv X.K} {P : D → Iv X.K → Prop} {PB : Bool → Iv X.K → Prop} {d : D} {ds : List D} {pos p ps : Pos} {a b : Addr} {n k m : Int} {x : Str} {c : Rc X.K} {κ : Ko X.K} {sts els : List Stmt}
/-- _law_next(h, n) == m -/
theorem et_nextEq (tk : Takes X W) (F : Def X.prog X.w X.K X.mg X.base x 1 ["_law_h", "_law_bound"] [] sNext) (hr : Room 1 X.A) (c : Rc X.K) (h0 : PV X I e0 δ (.adr a)) (h1 : PV X I e1 δ (.int n)) (hm : PV X I l δ (.int m)) (eI : I = c.fill (iDr X.K a b)) (hn : 0 < n ∧ n < 1000000) (q : ∀ b, PB b I)
    (hg : Gl X x := by rfl) (hdb : (x == ("__debug__" : Str)) = false := by decide)
    (he : starEach [e0, e1] X.env = (false, eval e0 X.env) :: starEach [e1] X.env := by rfl) (he2 : starEach [e1] X.env = (false, eval e1 X.env) :: starEach [] X.env := by rfl) (hpl : (backTo pos (starEach [e1] X.env)).any (·.1) = false := by rfl) : EvT X W R (.Compare (.Call (.Name x p) [e0, e1] [] pos) [.Eq] [l] ps) δ I PB :=
  et_cmp op_eq (ev_nextP tk F hr c h0 h1 eI hn (fun k _ _ => hm.ev (eqV_int k m _ ⟨_, rfl, q _⟩)) hg hdb he he2 hpl)
/-- .. as a test -/
theorem s_ifNext (tk : Takes X W) (F : Def X.prog X.w X.K X.mg X.base x 1 ["_law_h", "_law_bound"] [] sNext) (hr : Room 1 X.A) (c : Rc X.K) (h0 : PV X I e0 δ (.adr a)) (h1 : PV X I e1 δ (.int n)) (hm : PV X I l δ (.int m)) (eI : I = c.fill (iDr X.K a b)) (hn : 0 < n ∧ n < 1000000) (y1 : SX X W sts δ I κ) (y2 : SX X W els δ I κ)
    (hg : Gl X x := by rfl) (hdb : (x == ("__debug__" : Str)) = false := by decide)
    (he : starEach [e0, e1] X.env = (false, eval e0 X.env) :: starEach [e1] X.env := by rfl) (he2 : starEach [e1] X.env = (false, eval e1 X.env) :: starEach [] X.env := by rfl) (hpl : (backTo pos (starEach [e1] X.env)).any (·.1) = false := by rfl) : S1 X W (.If (.Compare (.Call (.Name x p) [e0, e1] [] pos) [.Eq] [l] ps) sts els p') δ I κ :=
  s_if (et_nextEq tk F hr c h0 h1 hm eI hn (fun b => by cases b; exact y2; exact y1) hg hdb he he2 hpl)
/-- xs[_law_next(h, n)] -/
theorem ev_pick (tk : Takes X W) (F : Def X.prog X.w X.K X.mg X.base x 1 ["_law_h", "_law_bound"] [] sNext) (hr : Room 1 X.A) (c : Rc X.K) (hl : PV X I l δ (.lst ds)) (h0 : PV X I e0 δ (.adr a)) (h1 : EvX X W R e1 δ I fun d I1 => ∃ n : Int, d = .int n ∧ I1 = I ∧ 0 < n ∧ n < 1000000 ∧ n ≤ ds.length) (eI : I = c.fill (iDr X.K a b)) (k : ∀ d ∈ ds, P d I)
    (hg : Gl X x := by rfl) (hdb : (x == ("__debug__" : Str)) = false := by decide)
    (he : starEach [e0, e1] X.env = (false, eval e0 X.env) :: starEach [e1] X.env := by rfl) (he2 : starEach [e1] X.env = (false, eval e1 X.env) :: starEach [] X.env := by rfl) (hpl : (backTo pos (starEach [e1] X.env)).any (·.1) = false := by rfl) (hs : PlainIx (.Call (.Name x p) [e0, e1] [] pos) := by exact fun _ _ => rfl) : EvX X W R (.Subscript l (.Call (.Name x p) [e0, e1] [] pos) ps) δ I P :=
  ev_ix ix_list (hl.ev (ev_next tk F hr c h0 (h1.imp fun d I1 ⟨n, ed, ei, n0, n1, n2⟩ => ⟨n, ed, ei, n0, n1, fun k' k0 k1 => o2_ixL k0 (by omega) k⟩) eI hg hdb he he2 hpl)) hs
end
theorem mulOk1 {x : Str} {n : Int} (h : MulOk x n := by exact ⟨by decide +kernel, fun _ _ => by decide +kernel, fun _ _ => by decide +kernel⟩) : MulOk x n := h
theorem mulOkN {x : Str} {n : Int} (h1 : x.length ≤ 1000) (h2 : 0 ≤ n) (h3 : n ≤ 1000) : MulOk x n := by
  refine ⟨?_, fun h4 _ => ?_, fun h4 _ => ?_⟩
  · simp only [Bool.or_eq_false_iff, decide_eq_false_iff_not]; omega
  · have e : (1000 : Int) ≤ (2 ^ 63 - 1) / n := (Int.le_ediv_iff_mul_le (by omega)).mpr (by omega)
    omega
  · have e : x.length * n.toNat ≤ 1000 * 1000 := Nat.mul_le_mul h1 (by omega)
    unfold Builtin.Str.tooLong
    simp only [decide_eq_false_iff_not]
    have := sizeLine_eq
    omega
def okVB : D → Bool
  | .str s => decide (s.length ≤ 100000)
  | .slo _ _ => false
  | .exc _ _ _ _ _ => false
  | .adr _ => false
  | .ty _ => false
  | _ => true
end DL
set_option Elab.async false
set_option linter.all false
set_option maxRecDepth 100000
set_option maxHeartbeats 4000000
namespace DL
open PySem PySem.Spec PyProof.Rows L2
/-- the law: of every script True -/
def sLaw {K : PySem.W.Frag} : Spec K := fun I ds P R => ∃ ns : List Int, ds = [.lsf (ns.map D.int)] ∧ ns.length ≤ 63 ∧ ∀ I', P (.bl true) I'
theorem repsInt {K : PySem.W.Frag} {G : Hp} : ∀ ns : List Int, Reps K G (ns.map D.int) (ns.map V.int)
  | [] => rfl
  | n :: ns => ⟨.int n, ns.map V.int, rfl, rfl, repsInt ns⟩
theorem sp_law {K : PySem.W.Frag} {H : Hp} {a : Addr} {ns : List Int} (hl : ns.length ≤ 63) (hS : SqL K H a (ns.map V.int)) : spD K sLaw [.ref a] H (fun v _ => v = .bl true) (fun _ _ _ => False) :=
  ⟨iEmp K, H, [.lsf (ns.map D.int)], fun d _ => d = .bl true, fun _ _ _ => False, Same.refl H, Hd.emp, ⟨.ref a, [], rfl, ⟨a, _, rfl, hS, repsInt ns⟩, rfl⟩, ⟨ns, rfl, hl, fun _ => rfl⟩, fun v d _ _ _ _ _ _ r e => by subst e; exact r, fun _ _ _ _ _ _ _ _ _ _ _ _ z => z⟩
theorem cx0 {P : Program} {w : World} {H : Hp} {s s' : Shared} {e : Value} (z : L2.CX P w [] H s (fun _ _ _ => False) e s') : False := by
  obtain ⟨_, _, _, _, _, _, _, _, _, _, _, _, h⟩ := z
  exact h
section
variable {X : Cx} {W : WX} {st : Stmt} {rest : List Stmt} {κ : Ko X.K}
/-- a family of states: one statement stays within it -/
theorem s_consF {α : Type} (Nv : α → Prop) (δf : α → DEnv) {J : Iv X.K} (h : ∀ x, Nv x → S1 X W st (δf x) J { κ with nx := fun δ' I' => I' = J ∧ ∃ y, Nv y ∧ δ' = δf y }) (k : ∀ x, Nv x → SX X W rest (δf x) J κ) : ∀ x, Nv x → SX X W (st :: rest) (δf x) J κ := fun x hx =>
  s_consI (fun δ' I' => I' = J ∧ ∃ y, Nv y ∧ δ' = δf y) (h x hx) fun δ' I' ⟨e1, y, hy, e2⟩ => by
    subst e1 e2
    exact k y hy
end
end DL
set_option Elab.async false
set_option linter.all false
set_option maxRecDepth 100000
set_option maxHeartbeats 1000000
namespace DL
open PySem PySem.Spec PyProof.Rows L2

theorem reps_rev {K : PySem.W.Frag} {G : Hp} : ∀ {ds : List D} {vs : List V}, Reps K G ds vs → Reps K G ds.reverse vs.reverse
  | [], vs, h => by
    rw [show vs = [] from h]
    exact rfl
  | d :: ds, _, ⟨v, r, e, r1, r2⟩ => by
    rw [e, List.reverse_cons, List.reverse_cons]
    exact (reps_rev r2).append (Reps.one r1)
/-! ### == of data at any depth -/
mutual
def pyD : D → PyData
  | .bl b => .bool b
  | .int i => .int i
  | .str s => .str s
  | .tup ds => .tuple (pyDs ds)
  | .lst ds => .list (pyDs ds)
  | .lsf ds => .list (pyDs ds)
  | _ => .none
def pyDs : List D → List PyData
  | [] => []
  | d :: ds => pyD d :: pyDs ds
end
mutual
def okPy : D → Bool
  | .non => true
  | .bl _ => true
  | .int _ => true
  | .str _ => true
  | .tup ds => okPys ds
  | .lst ds => okPys ds
  | .lsf ds => okPys ds
  | _ => false
def okPys : List D → Bool
  | [] => true
  | d :: ds => okPy d && okPys ds
end
mutual
theorem dp_of {K : PySem.W.Frag} {G H : Hp} (s : Same G H) : ∀ {d : D} {v : V}, okPy d = true → Rep K G d v → Dp K H v (pyD d)
  | .non, _, _, r => by rw [show _ = V.non from r]; exact .non
  | .bl b, _, _, r => by rw [show _ = V.bl b from r]; exact .bl b
  | .int i, _, _, r => by rw [show _ = V.int i from r]; exact .int i
  | .str x, _, _, r => by rw [show _ = V.str x from r]; exact .str x
  | .tup ds, _, h, ⟨a, vs, e1, e2, e3⟩ => by rw [e1]; exact .tup (sqT_mono s e2) (dps_of s h e3)
  | .lst ds, _, h, ⟨a, vs, e1, e2, e3⟩ => by rw [e1]; exact .lst (SqL.of (s _ _ e2)) (dps_of s h e3)
  | .lsf ds, _, h, ⟨a, vs, e1, e2, e3⟩ => by rw [e1]; exact .lst (sqL_mono s e2) (dps_of s h e3)
  | .ty _, _, h, _ => by cases h
  | .adr _, _, h, _ => by cases h
  | .slo _ _, _, h, _ => by cases h
  | .exc _ _ _ _ _, _, h, _ => by cases h
theorem dps_of {K : PySem.W.Frag} {G H : Hp} (s : Same G H) : ∀ {ds : List D} {vs : List V}, okPys ds = true → Reps K G ds vs → DpAll K H vs (pyDs ds)
  | [], _, _, r => by rw [show _ = [] from r]; exact .nil
  | d :: ds, _, h, ⟨v, r, e1, e2, e3⟩ => by
    have h2 : (okPy d && okPys ds) = true := h
    obtain ⟨ha, hb⟩ := Bool.and_eq_true_iff.mp h2
    rw [e1]
    exact .cons (dp_of s ha e2) (dps_of s hb e3)
end
def okEq (d : D) : Bool := okPy d && SeqAt.shaped (pyD d)
section
variable {K : PySem.W.Frag} {I : Iv K} {x y z d : D}
theorem p2_eqD (hx : okEq x = true) (hy : okEq y = true) : P2 K I (rEqD K) x y (.bl (PyData.eqv (pyD x) (pyD y))) := fun P p G H v w Q s hI r1 r2 q => by
  obtain ⟨a1, a2⟩ := Bool.and_eq_true_iff.mp hx
  obtain ⟨b1, b2⟩ := Bool.and_eq_true_iff.mp hy
  exact ⟨_, _, dp_of s a1 r1, dp_of s b1 r2, a2, b2, q _ (.bl _) G H I (Same.refl G) s hI rfl p⟩
theorem p2_neD (hx : okEq x = true) (hy : okEq y = true) : P2 K I (rNeD K) x y (.bl (!PyData.eqv (pyD x) (pyD y))) := fun P p G H v w Q s hI r1 r2 q => by
  obtain ⟨a1, a2⟩ := Bool.and_eq_true_iff.mp hx
  obtain ⟨b1, b2⟩ := Bool.and_eq_true_iff.mp hy
  exact ⟨_, _, dp_of s a1 r1, dp_of s b1 r2, a2, b2, q _ (.bl _) G H I (Same.refl G) s hI rfl p⟩
end
/-! ### slotted instances: their properties, len, ==, isinstance -/
/-- the property f of the class at C: its getter at g -/
structure PropC (K : PySem.W.Frag) (C : Addr) (f : Str) (p g : Addr) : Prop where
  at_ : PySem.W.findIn K (.ref C) f = some (some (.ref p))
  get : PySem.W.specialIn K (.ref p) "__get__" = some (some (.builtin "property.__get__"))
  tk : PySem.W.takesIn K (.ref p) = some true
  rc : ∃ rest, PySem.W.recIn K p "property" = some (.ref g :: rest)
/-- where the getter stands -/
def gtr (K : PySem.W.Frag) (C : Addr) (f : Str) : Addr := match PySem.W.recIn K (He.ma K C f) "property" with
  | some (.ref g :: _) => g
  | _ => 0
def prB (K : PySem.W.Frag) (C : Addr) (f : Str) : Bool := He.eqO (PySem.W.findIn K (.ref C) f) (some (some (.ref (He.ma K C f)))) && He.eqO (PySem.W.specialIn K (.ref (He.ma K C f)) "__get__") (some (some (.builtin "property.__get__"))) && decide (PySem.W.takesIn K (.ref (He.ma K C f)) = some true) &&
  (match PySem.W.recIn K (He.ma K C f) "property" with
  | some (.ref g :: _) => true
  | _ => false)
theorem prB_ok {K : PySem.W.Frag} {C : Addr} {f : Str} (h : prB K C f = true) : PropC K C f (He.ma K C f) (gtr K C f) := by
  obtain ⟨h, h4⟩ := Bool.and_eq_true_iff.mp h
  obtain ⟨h, h3⟩ := Bool.and_eq_true_iff.mp h
  obtain ⟨h1, h2⟩ := Bool.and_eq_true_iff.mp h
  refine ⟨He.eqO_ok h1, He.eqO_ok h2, of_decide_eq_true h3, ?_⟩
  unfold gtr
  split at h4
  · rename_i g r e
    rw [e]
    exact ⟨r, rfl⟩
  · cases h4
/-- what isinstance asks of the class at C -/
def siB (K : PySem.W.Frag) (C : Addr) : Bool := He.eqO (PySem.W.findIn K (.ref C) "__class__") (some (some (.builtin "object.__class__"))) && He.eqO (PySem.W.specialIn K (.builtin "object.__class__") "__get__") (some (some (.builtin "getset_descriptor.__get__"))) && decide (PySem.W.takesIn K (.builtin "object.__class__") = some true) && decide (PySem.W.mroIn K C (.type "object") = some true)
theorem siB_ok {K : PySem.W.Frag} {C : Addr} (h : siB K C = true) : SlX.SIsi K C := by
  obtain ⟨h, h4⟩ := Bool.and_eq_true_iff.mp h
  obtain ⟨h, h3⟩ := Bool.and_eq_true_iff.mp h
  obtain ⟨h1, h2⟩ := Bool.and_eq_true_iff.mp h
  exact ⟨He.eqO_ok h1, He.eqO_ok h2, of_decide_eq_true h3, of_decide_eq_true h4⟩
abbrev F0 {K : PySem.W.Frag} : Rx K := fun _ _ _ => False
theorem cxF {P : Program} {w : World} {outer : List Env} {H : Hp} {s s' : Shared} {e : Value} (z : L2.CX P w outer H s (fun _ _ _ => False) e s') : False := by
  obtain ⟨_, _, _, _, _, _, _, _, _, _, _, _, h⟩ := z
  exact h
theorem spD_of {K : PySem.W.Frag} {S : Spec K} {I : Iv K} {G H : Hp} {ds : List D} {vs : List V} {Q : VK} {P : D → Iv K → Prop} (s : Same G H) (h : Hd I G H) (r : Reps K G ds vs) (k : S I ds P F0) (q : Kv K Q G P) : spD K S vs H Q (fun _ _ _ => False) :=
  ⟨I, G, ds, P, F0, s, h, r, k, q, fun _ _ _ _ _ _ _ _ _ _ _ _ z => z⟩
section
variable {X : Cx} {W : WX} {R : Rx X.K} {I : Iv X.K} {e a b : Expr} {δ : DEnv} {pos : Pos} {C p g : Addr} {f : Str} {n : Nat} {S : Spec X.K} {fs : List D} {d d2 : D} {P : D → Iv X.K → Prop}
/-- e.f, a property -/
theorem pv_prop (c : SlX.SCls X.K C) (pr : PropC X.K C f p g) (F : FnR X.prog X.w X.K X.mg X.base (L2.CX X.prog X.w) n g (spD X.K S)) (hr : Room (n + 1) X.A) (he : PV X I e δ (.slo C fs)) (hS : ∀ P : D → Iv X.K → Prop, P d I → S I [.slo C fs] P F0)
    (hb : attributeBase e f X.env (eval e X.env) = eval e X.env := by rfl) : PV X I (.Attribute e f pos) δ d := fun W R P pp σ G H Q hE s hI qx q =>
  PE.wp (SlX.pe_propSl (E := fun _ _ _ => False) peC c pr.at_ pr.get pr.tk pr.rc F hr (fun _ _ _ _ z => cxF z) hb) (he W R (fun z I1 => z = .slo C fs ∧ I1 = I) ⟨rfl, rfl⟩ σ G H _ hE s hI qx fun v d1 G1 H1 I1 s1 t1 h1 r1 ⟨ed, ei⟩ => by
    subst ed ei
    obtain ⟨a, dx, vs, e1, e2, e3⟩ := r1
    exact ⟨a, dx, vs.map some, e1, slt_mono t1 e2, spD_of (ds := [.slo C fs]) t1 h1 ⟨.ref a, [], rfl, ⟨a, dx, vs, rfl, e2, e3⟩, rfl⟩ (hS P pp) (q.mono s1)⟩)
/-- len(x), an own __len__ -/
def rLenOwn (K : PySem.W.Frag) (C : Addr) (sp : Sp) (E : XK) : List V → Hp → VK → Prop := fun xs H Q => ∃ a dx vs, xs = [.ref a] ∧ SlX.Slt H a C dx vs ∧ sp [.ref a] H (fun v H' => ∃ k : Nat, v = .int k ∧ (k : Int) < 2 ^ 63 ∧ Q (.int k) H') E
theorem call_lenOwn {sp : Sp} {E : XK} {CX : CXT} (hs : PySem.W.findIn X.K (.ref C) "__len__" = some (some (.ref g))) (hf : PySem.W.isFn X.K (.ref g) = true) (F : FnR X.prog X.w X.K X.mg X.base CX n g sp) (hr : Room (n + 1) X.A) (hx : Passes CX X E) : CallR X (.builtin "len") (rLenOwn X.K C sp E) := by
  intro pins s σ H xs us Q J r h
  obtain ⟨x, dx, vs, rfl, hsl, q⟩ := h
  rw [Vals.ref1 r]
  obtain ⟨sl, od, _, O, _⟩ := SlX.slt_inst J hsl
  obtain ⟨m, hF⟩ := J.fr
  refine PySem.W.len_K hF J.ok.mod.kin O hs hf (wpAny_mono (wpAny_call (SlX.run_at (us := [.ref x]) (ws := [.ref x]) F hr.in1 J.env0.in1 hx J (.cons rfl .nil) q)) (fun w s' z => ?_) fun _ _ x => x)
  obtain ⟨z', H', J', rz, k, ez, hk, qz⟩ := z
  subst ez
  obtain ⟨t, e⟩ := (show ∃ t, w = Value.int k t from rz)
  subst e
  exact ⟨⟨Int.natCast_nonneg k, hk⟩, .int k, H', J'.tok _, ⟨_, rfl⟩, qz⟩
theorem pn_lenOwn {k : Nat} (hk : (k : Int) < 2 ^ 63) (hS : ∀ P : D → Iv X.K → Prop, P (.int k) I → S I [.slo C fs] P F0) : PN X.K I (rLenOwn X.K C (spD X.K S) (fun _ _ _ => False)) [.slo C fs] (.int k) := fun P pp G H vs Q s hI ⟨v, r, e1, ⟨a, dx, ws, e2, e3, e4⟩, e5⟩ q =>
  ⟨a, dx, ws.map some, by rw [e1, e2, show r = [] from e5], slt_mono s e3, spD_of (ds := [.slo C fs]) s hI ⟨.ref a, [], rfl, ⟨a, dx, ws, rfl, e3, e4⟩, rfl⟩ (hS (fun d I' => d = .int k ∧ I' = I) ⟨rfl, rfl⟩) fun v d G' H' I' s1 t1 h1 r1 ⟨ed, ei⟩ => by
    subst ed ei
    exact ⟨k, r1, hk, q _ (.int k) G' H' I' s1 t1 h1 rfl pp⟩⟩
/-- x == y, x an instance with an own __eq__, y of a built-in type -/
def rOwnT (K : PySem.W.Frag) (C : Addr) (sp : Sp) (E : XK) : R2 := fun x y H Q => ∃ a dx vs t, x = .ref a ∧ SlX.Slt H a C dx vs ∧ TyX K H y t ∧ PySem.W.notFirst K C t = true ∧ sp [x, y] H Q E
theorem op_ownT {op : CmpOp} {sp : Sp} {E : XK} {CX : CXT} (hop : ∀ a b, compareOp op a b = richCompare op a b) (hs : PySem.W.findIn X.K (.ref C) (cmpInfo op).2.1 = some (some (.ref g))) (hf : PySem.W.isFn X.K (.ref g) = true) (F : FnR X.prog X.w X.K X.mg X.base CX n g sp)
    (hr : Room n X.A) (hx : Passes CX X E) : OpR X (compareOp op) (rOwnT X.K C sp E) := by
  intro pins s σ H x y v u Q J rx ry h
  obtain ⟨a, dx, vs, t, rfl, ha, ht, hn, q⟩ := h
  cases (show v = Value.ref a from rx)
  obtain ⟨sl, od, _, O, _⟩ := SlX.slt_inst J ha
  obtain ⟨P, kx, hp, _⟩ := L2.kit_of J ry ht
  obtain ⟨m, hF⟩ := J.fr
  rw [hop]
  refine PySem.W.cmp_K (op := op) (tb := t) hr.units0 hF J.ok.mod.kin O (kx.ty _ _ J.kIn hp) hn hs hf ?_
  refine wpAny_mono (wpAny_call (run_fnR (us := [.ref a, u]) (vs := [.ref a, y]) F hr hx J (.cons rfl (.cons ry .nil)) q)) (fun w s' z => ?_) fun _ _ x => x
  obtain ⟨z', H', I', rz, qz⟩ := z
  exact SlX.cmpback rz ⟨z', H', I', rz, qz⟩
theorem p2_ownT {t : String} {z : D} (ht : tyD d = some t) (hn : PySem.W.notFirst X.K C (.type t) = true) (hS : ∀ P : D → Iv X.K → Prop, P z I → S I [.slo C fs, d] P F0) : P2 X.K I (rOwnT X.K C (spD X.K S) (fun _ _ _ => False)) (.slo C fs) d z := fun P pp G H v w Q s hI ⟨a, dx, ws, e2, e3, e4⟩ r2 q =>
  ⟨a, dx, ws.map some, .type t, e2, slt_mono s e3, tyX_of s r2 ht, hn, spD_of (ds := [.slo C fs, d]) s hI ⟨v, [w], rfl, ⟨a, dx, ws, e2, e3, e4⟩, w, [], rfl, r2, rfl⟩ (hS P pp) q⟩
/-- .. y an instance -/
theorem p2_own {C' : Addr} {gs : List D} {z : D} (hn : PySem.W.notFirst X.K C (.ref C') = true) (hS : ∀ P : D → Iv X.K → Prop, P z I → S I [.slo C fs, .slo C' gs] P F0) : P2 X.K I (SlX.rOwn X.K C (spD X.K S) (fun _ _ _ => False)) (.slo C fs) (.slo C' gs) z := fun P pp G H v w Q s hI ⟨a, dx, ws, e2, e3, e4⟩ ⟨b, dy, us, k2, k3, k4⟩ q =>
  ⟨a, dx, ws.map some, b, C', dy, us.map some, e2, k2, slt_mono s e3, slt_mono s k3, hn, spD_of (ds := [.slo C fs, .slo C' gs]) s hI ⟨v, [w], rfl, ⟨a, dx, ws, e2, e3, e4⟩, w, [], rfl, ⟨b, dy, us, k2, k3, k4⟩, rfl⟩ (hS P pp) q⟩
theorem takesPF : Passes (L2.CX X.prog X.w) X (fun _ _ _ => False) := fun _ _ _ _ _ _ _ z => (cxF z).elim
end
section
variable {K : PySem.W.Frag} {I : Iv K} {C T : Addr} {fs : List D} {d : D} {b : Bool}
/-- isinstance(x, T), T an own class -/
theorem pn_isiSl (c : SlX.SCls K C) (si : SlX.SIsi K C) (hk : PySem.W.kitOne K (.ref C) (.ref T) = some b) : PN K I (SlX.rIsiSl K (.ref T)) [.slo C fs, .adr T] (.bl b) := fun P p G H vs Q s hI ⟨v, r, e1, ⟨a, dx, ws, e2, e3, e4⟩, v2, r2, e5, e6, e7⟩ q =>
  ⟨a, C, dx, ws.map some, .ref T, b, by rw [e1, e2, e5, show v2 = .ref T from e6, show r2 = [] from e7], rfl, fun _ z => z, slt_mono s e3, c, si, hk, q _ (.bl b) G H I (Same.refl G) s hI rfl p⟩
theorem pn_isiO {t : String} (h : tyD d = some t) (hk : PySem.W.kitOne K (.type t) (.ref T) = some b) : PN K I (rIsi K) [d, .adr T] (.bl b) := fun P p G H vs Q s hI ⟨v, r, e1, e2, v2, r2, e3, e4, e5⟩ q =>
  ⟨v, .ref T, .type t, .ref T, b, by rw [e1, e3, show v2 = .ref T from e4, show r2 = [] from e5], .own T, tyX_of s e2 h, hk, q _ (.bl b) G H I (Same.refl G) s hI rfl p⟩
end
end DL
set_option Elab.async false
set_option linter.all false
set_option maxRecDepth 100000
set_option maxHeartbeats 4000000
namespace DL
open PySem PySem.Spec PyProof.Rows L2
/-! ### the head: defs at names and methods, getters of properties, a look -/
def pAd (K : PySem.W.Frag) (p : Str × Option Str) : Addr := gtr K (He.ga K p.1) (p.2.getD Str.empty)
def fnP (K : PySem.W.Frag) (p : Str × Option Str) : He.FnW := match K.lookup (pAd K p) with
  | some ⟨_, _, .func fd, _⟩ => some (fd.name, fd.qualname, fd.params, fd.body, fd.scope, fd.globals, fd.closure, fd.builtins)
  | _ => none
def okP (K : PySem.W.Frag) (d : He.DefD) : Bool := PySem.W.keepIn K (.ref (pAd K d.at_)) && (match K.lookup (pAd K d.at_) with
  | some ⟨_, _, .func fd, _⟩ => PySem.W.codeIn K fd.code d.qual && (He.dflB K fd.defaults (d.dvs K) && He.kwdB K fd.kwdefaults (d.kws K))
  | _ => false)
theorem funP {K : PySem.W.Frag} {d : He.DefD} (e : fnP K d.at_ = d.val) (c : okP K d = true) : ∃ fd, FunD K d.name d.qual d.params d.body d.scope (d.dvs K) (d.kws K) (pAd K d.at_) fd := by
  obtain ⟨kp, c2⟩ := He.ba c
  unfold fnP at e
  cases q : K.lookup (pAd K d.at_) with
  | none =>
    rw [q] at c2
    cases c2
  | some o =>
    obtain ⟨oc, od, dt, osl⟩ := o
    rw [q] at c2 e
    cases dt with
    | func fd =>
      obtain ⟨n1, n2, n3, n4, n5, n6, n7, n8, n9, n10, n11, n12, n13, n14, n15⟩ := fd
      have e2 : (some (n1, n2, n3, n4, n5, n6, n7, n15) : He.FnW) = some (d.name, d.qual, d.params, .stmts d.body, d.scope, mainGlobals, [], builtinsNs) := e
      simp only [Option.some.injEq, Prod.mk.injEq] at e2
      obtain ⟨h1, h2, h3, h4, h5, h6, h7, h8⟩ := e2
      subst h1 h2 h3 h4 h5 h6 h7 h8
      have c3 : (PySem.W.codeIn K n13 d.qual && (He.dflB K n8 (d.dvs K) && He.kwdB K n9 (d.kws K))) = true := c2
      obtain ⟨k1, k2⟩ := He.ba c3
      obtain ⟨k3, k4⟩ := He.ba k2
      exact ⟨_, ⟨oc, od, n8, n9, n10, n11, n12, n13, n14, osl, rfl, q, k1, He.dflB_ok k3, He.kwdB_ok k4⟩, kp⟩
    | _ => cases c2
def exP (gs : List He.DefD) (ex : PySem.W.Frag → Bool) (K : PySem.W.Frag) : Bool := ex K && gs.all fun d => okP K d
abbrev AlP : Type := He.AlX × List He.FnW
def obsP (n : Nat) (fn gs : List He.DefD) (ex : PySem.W.Frag → Bool) (g : Addr → Option Obj) : AlP := (He.obsX n [] fn [] [] (exP gs ex) g, gs.map fun d => fnP (He.frT g (He.asD g n)) d.at_)
structure SaysP (fn gs : List He.DefD) (ex : PySem.W.Frag → Bool) (w : World) (h : Heap) (K : PySem.W.Frag) : Prop where
  x : He.SaysX [] fn [] [] (exP gs ex) w h K
  g : (gs.map fun d => fnP K d.at_) = gs.map He.DefD.val
def hookP (n : Nat) (fn gs : List He.DefD) (ex : PySem.W.Frag → Bool) : PySem.W.Hook where
  α := AlP
  obs := fun s => obsP n fn gs ex s.heap.get?
  val := fun w => (He.valX fn [] w, gs.map He.DefD.val)
  says := fun w h => ∃ K : PySem.W.Frag, K.In h ∧ SaysP fn gs ex w h K
  of := fun _ _ e => ⟨_, He.frT_in, He.saysX_of (congrArg (fun z : AlP => z.1) e), congrArg (fun z : AlP => z.2) e⟩
  keeps := fun _ _ _ ⟨K, hK, c⟩ k => ⟨K, PySem.W.Frag.In.keeps hK k, ⟨⟨c.x.t, c.x.more, (fun _ z => nomatch z), (fun _ z => nomatch z), (fun _ z => nomatch z)⟩, c.g⟩⟩
theorem obsP_eq {n : Nat} {fn gs : List He.DefD} {ex : PySem.W.Frag → Bool} {g : Addr → Option Obj} {s : Shared} (h : ∀ a, g a = s.heap.get? a) : obsP n fn gs ex g = (show AlP from (hookP n fn gs ex).obs s) := by
  have e : g = s.heap.get? := funext h
  rw [e] <;> rfl
section
variable {fn gs : List He.DefD} {ex : PySem.W.Frag → Bool} {w : World} {h : Heap} {K : PySem.W.Frag}
theorem SaysP.more (c : SaysP fn gs ex w h K) : ex K = true := (He.ba c.x.more).1
theorem SaysP.def_ (c : SaysP fn gs ex w h K) (i : Nat) {d : He.DefD} (h : fn[i]? = some d := by rfl) : ∃ fd, FunD K d.name d.qual d.params d.body d.scope (d.dvs K) (d.kws K) (He.fAd K d.at_) fd := c.x.t.d.def_ i h
theorem SaysP.get_ (c : SaysP fn gs ex w h K) (i : Nat) {d : He.DefD} (hd : gs[i]? = some d := by rfl) : ∃ fd, FunD K d.name d.qual d.params d.body d.scope (d.dvs K) (d.kws K) (pAd K d.at_) fd := by
  have c2 := (He.ba c.x.more).2
  have e2 : (gs.map fun d => fnP K d.at_)[i]? = (gs.map He.DefD.val)[i]? := by rw [c.g]
  rw [List.getElem?_map, List.getElem?_map, hd] at e2
  exact funP (Option.some.inj e2) (List.all_eq_true.mp c2 d (List.mem_of_getElem? hd))
end
def dF (x : Str) (st : Stmt) (dfl : List He.Dv := []) (kws : List (Str × He.Dv) := []) : He.DefD := ⟨(x, none), x, x, defArgs st, defBody st, defScope st, dfl, kws⟩
def dM (C m q : Str) (st : Stmt) (dfl : List He.Dv := []) (kws : List (Str × He.Dv) := []) : He.DefD := ⟨(C, some m), m, q, defArgs st, defBody st, defScope st, dfl, kws⟩
end DL
set_option Elab.async false
set_option linter.all false
set_option maxRecDepth 100000
set_option maxHeartbeats 4000000
namespace LK
open PySem PySem.Spec PyProof.Rows L2 DL
def top (i : Nat) : Stmt := PySem.Challenge.pw_linesharing_k02_writes_kept.main.body.getD i (.Pass ⟨0, 0, 0, 0⟩)
abbrev m_InvalidWrite_init : Stmt := inClass (top 2) 0
theorem sc_m_InvalidWrite_init : FnScope ["self", "part"] ["self", "part"] (defScope m_InvalidWrite_init) := ⟨rfl, rfl, rfl, by decide +kernel, rfl, by decide +kernel, by decide +kernel⟩
abbrev f_is_text : Stmt := top 15
theorem sc_f_is_text : FnScope ["value", "sign"] ["value"] (defScope f_is_text) := ⟨rfl, rfl, rfl, by decide +kernel, rfl, by decide +kernel, by decide +kernel⟩
abbrev f_is_one_of : Stmt := top 16
theorem sc_f_is_one_of : FnScope ["value", "words"] ["value", "words"] (defScope f_is_one_of) := ⟨rfl, rfl, rfl, by decide +kernel, rfl, by decide +kernel, by decide +kernel⟩
abbrev m_Write_init : Stmt := inClass (top 17) 1
theorem sc_m_Write_init : FnScope ["self", "kind", "text", "lead", "tail"] ["self", "kind", "text", "lead", "tail"] (defScope m_Write_init) := ⟨rfl, rfl, rfl, by decide +kernel, rfl, by decide +kernel, by decide +kernel⟩
abbrev m_Write_kind : Stmt := inClass (top 17) 2
theorem sc_m_Write_kind : FnScope ["self"] ["self"] (defScope m_Write_kind) := ⟨rfl, rfl, rfl, by decide +kernel, rfl, by decide +kernel, by decide +kernel⟩
abbrev m_Write_text : Stmt := inClass (top 17) 3
theorem sc_m_Write_text : FnScope ["self"] ["self"] (defScope m_Write_text) := ⟨rfl, rfl, rfl, by decide +kernel, rfl, by decide +kernel, by decide +kernel⟩
abbrev m_Write_lead : Stmt := inClass (top 17) 4
theorem sc_m_Write_lead : FnScope ["self"] ["self"] (defScope m_Write_lead) := ⟨rfl, rfl, rfl, by decide +kernel, rfl, by decide +kernel, by decide +kernel⟩
abbrev m_Write_tail : Stmt := inClass (top 17) 5
theorem sc_m_Write_tail : FnScope ["self"] ["self"] (defScope m_Write_tail) := ⟨rfl, rfl, rfl, by decide +kernel, rfl, by decide +kernel, by decide +kernel⟩
abbrev m_Write_stays : Stmt := inClass (top 17) 6
theorem sc_m_Write_stays : FnScope ["self"] ["self"] (defScope m_Write_stays) := ⟨rfl, rfl, rfl, by decide +kernel, rfl, by decide +kernel, by decide +kernel⟩
abbrev m_Write_len : Stmt := inClass (top 17) 7
theorem sc_m_Write_len : FnScope ["self"] ["self"] (defScope m_Write_len) := ⟨rfl, rfl, rfl, by decide +kernel, rfl, by decide +kernel, by decide +kernel⟩
abbrev m_Write_eq : Stmt := inClass (top 17) 8
theorem sc_m_Write_eq : FnScope ["self", "other"] ["self", "other"] (defScope m_Write_eq) := ⟨rfl, rfl, rfl, by decide +kernel, rfl, by decide +kernel, by decide +kernel⟩
abbrev f_Lmix : Stmt := top 19
theorem sc_f_Lmix : FnScope ["_law_script", "_law_seed", "_law_state", "_law_cell"] ["_law_script", "_law_seed"] (defScope f_Lmix) := ⟨rfl, rfl, rfl, by decide +kernel, rfl, by decide +kernel, by decide +kernel⟩
abbrev f_Lnext : Stmt := top 20
theorem sc_f_Lnext : FnScope ["_law_h", "_law_bound", "_law_cell"] ["_law_h", "_law_bound"] (defScope f_Lnext) := ⟨rfl, rfl, rfl, by decide +kernel, rfl, by decide +kernel, by decide +kernel⟩
abbrev f_Lletters : Stmt := top 21
theorem sc_f_Lletters : FnScope ["_law_h", "_law_most", "_law_signs", "_law_size", "_law_k"] ["_law_h", "_law_most"] (defScope f_Lletters) := ⟨rfl, rfl, rfl, by decide +kernel, rfl, by decide +kernel, by decide +kernel⟩
abbrev f_Lone : Stmt := top 22
theorem sc_f_Lone : FnScope ["_law_h", "_law_form", "_law_most", "_law_words", "_law_ahead", "_law_behind"] ["_law_h", "_law_form", "_law_most"] (defScope f_Lone) := ⟨rfl, rfl, rfl, by decide +kernel, rfl, by decide +kernel, by decide +kernel⟩
abbrev f_law : Stmt := top 23
theorem sc_f_law : FnScope ["_law_script", "_law_h", "_law_form", "_law_one_here", "_law_other", "_law_turn", "_law_first", "_law_second", "_law_bare"] ["_law_script"] (defScope f_law) := ⟨rfl, rfl, rfl, by decide +kernel, rfl, by decide +kernel, by decide +kernel⟩

abbrev FnP (K : PySem.W.Frag) (x qual : Str) (st : Stmt) (f : Addr) (fd : FuncData) : Prop := FunD K x qual (defArgs st) (defBody st) (defScope st) [] [] f fd
end LK
set_option Elab.async false
set_option linter.all false
set_option maxRecDepth 100000
set_option maxHeartbeats 4000000
namespace LK
open PySem PySem.Spec PyProof.Rows L2 DL
abbrev SIGNS : Str := Str.ofString ("abcdefghijklmnopqrstuvwxyzABCDEFGHIJKLMNOPQRSTUVWXYZ0123456789 !\"#$&'()*+,-./:;<=>?@" ++ "[\\]^_`{|}~")
abbrev kinds : List Str := ["say", "ask", "reply", "show"]
abbrev leads : List Str := ["", "return", "wipe", "fresh"]
abbrev tails : List Str := ["", "erase", "newline"]
def frB (K : PySem.W.Frag) (xs : List Str) : Bool := xs.all fun x => (He.Fa.free x).ok K
def glB (K : PySem.W.Frag) (xs : List Str) : Bool := xs.all fun x => (He.Fa.glo x).ok K
section
variable {K : PySem.W.Frag} {h : Heap} {mg : Str → Option Value} {xs : List Str} {x : Str}
theorem frB_ok (X : K.In h) (G : h.Ns mainGlobals mg) (q : frB K xs = true) (hx : xs.contains x = true) : mg x = none := He.free_ok X G (List.all_eq_true.mp q x (List.contains_iff_mem.mp hx))
theorem glB_ok (X : K.In h) (G : h.Ns mainGlobals mg) (q : glB K xs = true) (hx : xs.contains x = true) : mg x = some (.ref (He.ga K x)) := He.glo_ok X G (List.all_eq_true.mp q x (List.contains_iff_mem.mp hx))
end
abbrev frW : List Str := ["isinstance", "str", "len", "all", "int", "max", "list", "range", "ValueError"]
abbrev glW : List Str := ["KINDS", "LEADS", "TAILS", "Write", "is_text", "is_one_of"]
abbrev cW (K : PySem.W.Frag) : Addr := He.ga K "Write"
structure Tx (K : PySem.W.Frag) (mg : Str → Option Value) : Prop where
  fr : ∀ x, frW.contains x = true → mg x = none
  gl : ∀ x, glW.contains x = true → mg x = some (.ref (He.ga K x))
  cMS : ∃ t, mg "MOST_SIGNS" = some (.int 40 t)
  cSIGNS : ∃ t, mg "SIGNS" = some (.str SIGNS t)
  cASK : ∃ t, mg "ASK" = some (.str "ask" t)
  cREPLY : ∃ t, mg "REPLY" = some (.str "reply" t)
  cSHOW : ∃ t, mg "SHOW" = some (.str "show" t)
  cSAY : ∃ t, mg "SAY" = some (.str "say" t)
  tKINDS : GTup K mg "KINDS" (kinds.map D.str)
  tLEADS : GTup K mg "LEADS" (leads.map D.str)
  tTAILS : GTup K mg "TAILS" (tails.map D.str)
  xW : TExc K mg "InvalidWrite"
  xWn : PySem.W.findIn K (.ref (He.ga K "InvalidWrite")) "part" = some none
  sc : SlX.SCls K (cW K)
  s0 : SlX.Slot1 K (cW K) "mode" (He.ma K (cW K) "mode") 2
  s1 : SlX.Slot1 K (cW K) "signs" (He.ma K (cW K) "signs") 3
  s2 : SlX.Slot1 K (cW K) "ahead" (He.ma K (cW K) "ahead") 0
  s3 : SlX.Slot1 K (cW K) "behind" (He.ma K (cW K) "behind") 1
  mkW : Mk K (cW K) (He.ma K (cW K) "__init__")
section
variable {K : PySem.W.Frag} {mg : Str → Option Value}
theorem Tx.isi (T : Tx K mg) : mg "isinstance" = none := T.fr _ (by decide +kernel)
theorem Tx.str (T : Tx K mg) : mg "str" = none := T.fr _ (by decide +kernel)
theorem Tx.len (T : Tx K mg) : mg "len" = none := T.fr _ (by decide +kernel)
theorem Tx.all (T : Tx K mg) : mg "all" = none := T.fr _ (by decide +kernel)
theorem Tx.int (T : Tx K mg) : mg "int" = none := T.fr _ (by decide +kernel)
theorem Tx.max (T : Tx K mg) : mg "max" = none := T.fr _ (by decide +kernel)
theorem Tx.list (T : Tx K mg) : mg "list" = none := T.fr _ (by decide +kernel)
theorem Tx.range (T : Tx K mg) : mg "range" = none := T.fr _ (by decide +kernel)
theorem Tx.ve (T : Tx K mg) : mg "ValueError" = none := T.fr _ (by decide +kernel)
theorem Tx.gW (T : Tx K mg) : mg "Write" = some (.ref (cW K)) := T.gl _ (by decide +kernel)
end
def TxB (K : PySem.W.Frag) : Bool := frB K frW && (glB K glW && ((He.Fa.int "MOST_SIGNS" 40).ok K && ((He.Fa.str "SIGNS" SIGNS).ok K && ((He.Fa.str "ASK" "ask").ok K && ((He.Fa.str "REPLY" "reply").ok K && ((He.Fa.str "SHOW" "show").ok K && ((He.Fa.str "SAY" "say").ok K && (He.tupB K "KINDS" (kinds.map He.Dv.str) && (He.tupB K "LEADS" (leads.map He.Dv.str) && (He.tupB K "TAILS" (tails.map He.Dv.str) &&
  (exB K "InvalidWrite" && ((He.Fa.noat "InvalidWrite" "part").ok K && (scB K (cW K) && (slB K (cW K) "mode" 2 && (slB K (cW K) "signs" 3 && (slB K (cW K) "ahead" 0 && (slB K (cW K) "behind" 1 && (He.Fa.mkr "Write").ok K)))))))))))))))))
theorem TxB_ok {K : PySem.W.Frag} {h : Heap} {mg : Str → Option Value} (X : K.In h) (G : h.Ns mainGlobals mg) (q : TxB K = true) : Tx K mg := by
  obtain ⟨q0, q⟩ := He.ba q
  obtain ⟨q1, q⟩ := He.ba q
  obtain ⟨q2, q⟩ := He.ba q
  obtain ⟨q3, q⟩ := He.ba q
  obtain ⟨q4, q⟩ := He.ba q
  obtain ⟨q5, q⟩ := He.ba q
  obtain ⟨q6, q⟩ := He.ba q
  obtain ⟨q7, q⟩ := He.ba q
  obtain ⟨q8, q⟩ := He.ba q
  obtain ⟨q9, q⟩ := He.ba q
  obtain ⟨q10, q⟩ := He.ba q
  obtain ⟨q11, q⟩ := He.ba q
  obtain ⟨q12, q⟩ := He.ba q
  obtain ⟨q13, q⟩ := He.ba q
  obtain ⟨q14, q⟩ := He.ba q
  obtain ⟨q15, q⟩ := He.ba q
  obtain ⟨q16, q⟩ := He.ba q
  obtain ⟨q17, q18⟩ := He.ba q
  have g : ∀ x, glW.contains x = true → He.eqO (PySem.W.nsIn K mainGlobals x) (some (some (.ref (He.ga K x)))) = true := fun x hx => List.all_eq_true.mp q1 x (List.contains_iff_mem.mp hx)
  exact ⟨fun x hx => frB_ok X G q0 hx, fun x hx => glB_ok X G q1 hx, He.int_ok X G q2, He.str_ok X G q3, He.str_ok X G q4, He.str_ok X G q5, He.str_ok X G q6, He.str_ok X G q7,
    gtup_of X G q8 (g _ (by decide +kernel)) rfl, gtup_of X G q9 (g _ (by decide +kernel)) rfl, gtup_of X G q10 (g _ (by decide +kernel)) rfl, exB_ok X G q11, He.noat_ok q12, scB_ok q13, slB_ok q14, slB_ok q15, slB_ok q16, slB_ok q17, He.mkr_ok q18⟩
/-- what is_text says -/
def isTextD : D → Bool
  | .str s => decide (s.length ≤ 40) && s.cps.toList.all fun c => decide (c ∈ SIGNS.cps.toList)
  | _ => false
def okV (d : D) : Prop := (∃ t, tyD d = some t) ∧ ∀ s, d = .str s → s.length ≤ 100000
def sIsText {K : PySem.W.Frag} : Spec K := fun I ds P _ => ∃ d, ds = [d] ∧ okV d ∧ P (.bl (isTextD d)) I
section
variable {P : Program} {w : World} {K : PySem.W.Frag} {mg : Str → Option Value} {base : Heap} {f : Addr} {fd : FuncData}
theorem ok_is_text (F : FnP K "is_text" "is_text" f_is_text f fd) (T : Tx K mg) : FnOk P w K mg base (L2.CX P w) 1 f fd ["value"] (spD K sIsText) := by
  refine fn_d F sc_f_is_text (fun I ds P R h => by obtain ⟨d, rfl, _⟩ := h; rfl) fun cdv A outer s H E hr tk po I ds Q R h => ?_
  obtain ⟨d, rfl, ⟨⟨t, ht⟩, hz⟩, q⟩ := h
  have nd := sc_f_is_text.nd
  rcases str_or d ht with ⟨z, rfl⟩ | ⟨hk, hn⟩
  · have hl := hz z rfl
    refine s_cons (s_ifP (ptw (ww_or (ptn (pt_v (pv_cb call_isi T.isi (va_cons (pv_v 0) (va_cons (pv_gty (n := "str") T.str) va_nil)) (pn_isiT (t := "str") rfl)))) fun _ => ww_or1 (pt_cmp op_gt (pv_cb call_len_str T.len (va_cons (pv_v 0) va_nil) (pn_lenS hl)) (pv_gint T.cMS) p2_gt))) (fun e => ?_) fun e => ?_)
    · refine s_one (s_retP pv_bl ?_)
      have e2 : (40 : Int) < z.length := by simpa using e
      have e3 : isTextD (.str z) = false := by simp [isTextD]; omega
      rw [← e3]; exact q
    · refine s_nil ?_
      have e2 : ¬ (40 : Int) < z.length := by simpa using e
      have el : D.lst ((z.cps.toList.map fun c => D.str ⟨#[c]⟩).map fun d => .bl (match d with | .str s => decide (s.cps.toList.headD 0 ∈ SIGNS.cps.toList) | _ => false)) = .lst ((z.cps.toList.map fun c => decide (c ∈ SIGNS.cps.toList)).map D.bl) := by
        rw [List.map_map, List.map_map]; rfl
      refine s_one (s_retP (pv_cb (cr_all rfl) T.all (va_cons ((pv_lcMap _ [("sign", 1)] (fun d => [some (.str z), some d]) (vi_str (pv_v 0)) (by rw [List.length_map, Array.length_toList]; exact Nat.le_trans hl (by decide)) (fun d s H C cl fp => bind_name 1) fun d hd J s H C cl fp => ?_).is el) va_nil) pn_all) ?_)
      · obtain ⟨c, hc, rfl⟩ := List.mem_map.mp hd
        exact pv_cmp op_signIn (pv_v 1) (pv_gstr T.cSIGNS) p2_signIn
      · have e3 : isTextD (.str z) = (z.cps.toList.map fun c => decide (c ∈ SIGNS.cps.toList)).all id := by
          have e4 : (40 : Nat) ≥ z.length := by omega
          simp only [isTextD, List.all_map]
          rw [decide_eq_true e4, Bool.true_and]
          rfl
        rw [← e3]; exact q
  · have e3 : isTextD d = false := by
      cases d <;> first | rfl | exact absurd rfl (hn _)
    refine s_cons (s_ifT (ptw (ww_orT (ptn (k := false) (pt_v (pv_cb call_isi T.isi (va_cons (pv_v 0) (va_cons (pv_gty (n := "str") T.str) va_nil)) (pn_isiF ht hk)))))) (s_one (s_retP pv_bl ?_)))
    rw [← e3]
    exact q
/-- is_one_of -/
def isOneD (d : D) (ws : List Str) : Bool := match d with
  | .str s => decide (s ∈ ws)
  | _ => false
def sIsOne {K : PySem.W.Frag} : Spec K := fun I ds P _ => ∃ d ws, ds = [d, .tup (List.map D.str ws)] ∧ okV d ∧ P (.bl (isOneD d ws)) I
theorem ok_is_one_of (F : FnP K "is_one_of" "is_one_of" f_is_one_of f fd) (T : Tx K mg) : FnOk P w K mg base (L2.CX P w) 1 f fd ["value", "words"] (spD K sIsOne) := by
  refine fn_d F sc_f_is_one_of (fun I ds P R h => by obtain ⟨d, ws, rfl, _⟩ := h; rfl) fun cdv A outer s H E hr tk po I ds Q R h => ?_
  obtain ⟨d, ws, rfl, ⟨⟨t, ht⟩, hz⟩, q⟩ := h
  rcases str_or d ht with ⟨z, rfl⟩ | ⟨hk, hn⟩
  · exact s_one (s_retP (pv_andT (pv_cb call_isi T.isi (va_cons (pv_v 0) (va_cons (pv_gty (n := "str") T.str) va_nil)) (pn_isiT (t := "str") rfl)) (pv_one (pv_cmp op_in_seq (pv_v 0) (pv_v 1) p2_inStr))) q)
  · have e3 : isOneD d ws = false := by
      cases d <;> first | rfl | exact absurd rfl (hn _)
    rw [e3] at q
    exact s_one (s_retP (pv_andF (pv_cb call_isi T.isi (va_cons (pv_v 0) (va_cons (pv_gty (n := "str") T.str) va_nil)) (pn_isiF ht hk))) q)
/-- an error's __init__ with one field -/
theorem ok_initW (F : FnP K "__init__" "InvalidWrite.__init__" m_InvalidWrite_init f fd) (T : Tx K mg) : FnOk P w K mg base (L2.CX P w) 1 f fd ["self", "part"] (spXIC (He.ga K "InvalidWrite") ["part"]) := by
  refine F.ok sc_m_InvalidWrite_init (fun vs H Q E h => ?_) (fun cdv A outer s H vs Q E hr h => ?_)
  · obtain ⟨a, ws, rfl, hl, _⟩ := h
    simp [hl]
  · obtain ⟨a, ws, rfl, hl, ha, q⟩ := h
    obtain ⟨v, rfl⟩ : ∃ v, ws = [v] := by
      match ws, hl with
      | [v], _ => exact ⟨v, rfl⟩
    refine ⟨_, pss_one (ps_ost (pv 0) (pv 1)), ?_⟩
    refine ⟨v, rfl, .ref a, rfl, a, _, rfl, T.xW.oe, T.xWn, .inl ⟨ha, fun dx hd hne => ?_⟩⟩
    exact q dx _ hd hne upd_same (by rw [upd_ne hne]; exact upd_same) fun b h1 h2 => by rw [upd_ne h1, upd_ne h2]
end
end LK
set_option Elab.async false
set_option linter.all false
set_option maxRecDepth 100000
set_option maxHeartbeats 4000000
namespace LK
open PySem PySem.Spec PyProof.Rows L2 DL
def isOneT (d : D) (s : Str) : Bool := match d with
  | .str z => decide (z = s)
  | _ => false
/-- the first part at fault -/
def wFault (k t l e : D) : Option Str :=
  if (!isOneD k kinds) = true then some ("kind" : Str) else
  if (!isTextD t || (isOneT t "" && isOneD k ["ask", "reply"])) = true then some ("text" : Str) else
  if (!isOneD l leads || (!isOneT l "" && isOneT k "reply")) = true then some ("lead" : Str) else
  if (!isOneD e tails || (!isOneT e "" && isOneT k "ask")) = true then some ("tail" : Str) else none
def sWInit {K : PySem.W.Frag} : Spec K := fun I ds P R => ∃ (x dx : Addr) (J : Iv K) (k t l e : D), ds = [.adr x, k, t, l, e] ∧ I = J.and (iSl K x (He.ga K "Write") dx []) ∧ okV k ∧ okV t ∧ okV l ∧ okV e ∧
  match wFault k t l e with
  | none => P .non (J.and (iSl K x (He.ga K "Write") dx [some l, some e, some k, some t]))
  | some part => R (He.ga K "InvalidWrite") [("part", .str part)] I
theorem isOneD_str {d : D} {ws : List Str} (h : isOneD d ws = true) : ∃ z, d = .str z := by
  cases d with
  | str z => exact ⟨z, rfl⟩
  | _ => cases h
theorem isTextD_str {d : D} (h : isTextD d = true) : ∃ z, d = .str z := by
  cases d with
  | str z => exact ⟨z, rfl⟩
  | _ => cases h
section
variable {P : Program} {w : World} {K : PySem.W.Frag} {mg : Str → Option Value} {base : Heap} {f : Addr} {fd : FuncData}
theorem ok_wInit {dvs : List V} {kws : List (Str × V)} {fW : FuncData} (F : FunD K "__init__" "Write.__init__" (defArgs m_Write_init) (defBody m_Write_init) (defScope m_Write_init) dvs kws f fd) (T : Tx K mg)
    (DT : Def P w K mg base "is_text" 1 ["value"] [] sIsText) (DO : Def P w K mg base "is_one_of" 1 ["value", "words"] [] sIsOne)
    (FW : FnOk P w K mg base (L2.CX P w) 1 (He.ma K (He.ga K "InvalidWrite") "__init__") fW ["self", "part"] (spXIC (He.ga K "InvalidWrite") ["part"])) (bW : L2.Binds K fW ["self", "part"] []) :
    FnOk P w K mg base (L2.CX P w) 3 f fd ["self", "kind", "text", "lead", "tail"] (spD K sWInit) := by
  refine fn_d F sc_m_Write_init (fun I ds P R h => by obtain ⟨x, dx, J, k, t, l, e, rfl, _⟩ := h; rfl) fun cdv A outer s H E hr tk po I ds Q R h => ?_
  obtain ⟨x, dx, J, k, t, l, e, rfl, rfl, hk, ht, hl, he, q⟩ := h
  have nd := sc_m_Write_init.nd
  have hr1 : Room 1 _ := hr.mono (by decide)
  -- the kind
  refine s_cons (s_ifP (ptn (pt_v (pv_def DO hr1 (va_cons (pv_v 1) (va_cons (pv_gtup T.tKINDS) va_nil)) fun P p => ⟨_, _, rfl, hk, p⟩))) (fun e1 => ?_) fun e1 => s_nil ?_)
  · refine s_one (s_raise tk T.xW.oe T.xW.iC T.xW.tI FW hr bW T.xW.g (ea_cons (pv_str _ _ _ (ea_nil ⟨rfl, by decide, ?_⟩))))
    have ef : wFault k t l e = some ("kind" : Str) := by unfold wFault; rw [if_pos e1]
    rw [ef] at q
    exact q
  have e1' : isOneD k kinds = true := by simpa using e1
  obtain ⟨zk, rfl⟩ := isOneD_str e1'
  -- the text
  refine s_cons (s_ifP (b := (!isTextD t || (isOneT t "" && isOneD (.str zk) ["ask", "reply"]))) (ptw (ww_or (ptn (pt_v (pv_def DT hr1 (va_cons (pv_v 2) va_nil) fun P p => ⟨_, rfl, ht, p⟩))) fun e2 => ?_)) (fun e2 => ?_) fun e2 => s_nil ?_)
  · have e2' : isTextD t = true := by simpa using e2
    obtain ⟨zt, rfl⟩ := isTextD_str e2'
    exact ww_or1 (ptw (ww_and (pt_cmp op_eq (pv_v 2) pv_str (eqV_str _ _)) fun _ => ww_and1 (pt_cmp op_in_seq (pv_v 1) (pv_tup (va_cons (pv_gstr T.cASK) (va_cons (pv_gstr T.cREPLY) va_nil))) (p2_inStr (ws := ["ask", "reply"])))))
  · refine s_one (s_raise tk T.xW.oe T.xW.iC T.xW.tI FW hr bW T.xW.g (ea_cons (pv_str _ _ _ (ea_nil ⟨rfl, by decide, ?_⟩))))
    have ef : wFault (.str zk) t l e = some ("text" : Str) := by unfold wFault; rw [if_neg (by rw [e1']; simp), if_pos e2]
    rw [ef] at q
    exact q
  have e2' : isTextD t = true := by
    cases h : isTextD t with
    | true => rfl
    | false => rw [h] at e2; simp at e2
  obtain ⟨zt, rfl⟩ := isTextD_str e2'
  -- the lead
  refine s_cons (s_ifP (b := (!isOneD l leads || (!isOneT l "" && isOneT (.str zk) "reply"))) (ptw (ww_or (ptn (pt_v (pv_def DO hr1 (va_cons (pv_v 3) (va_cons (pv_gtup T.tLEADS) va_nil)) fun P p => ⟨_, _, rfl, hl, p⟩))) fun e3 => ?_)) (fun e3 => ?_) fun e3 => s_nil ?_)
  · have e3' : isOneD l leads = true := by simpa using e3
    obtain ⟨zl, rfl⟩ := isOneD_str e3'
    exact ww_or1 (ptw (ww_and (pt_cmp op_ne (pv_v 3) pv_str (neV_str _ _)) fun _ => ww_and1 (pt_cmp op_eq (pv_v 1) (pv_gstr T.cREPLY) (eqV_str _ _))))
  · refine s_one (s_raise tk T.xW.oe T.xW.iC T.xW.tI FW hr bW T.xW.g (ea_cons (pv_str _ _ _ (ea_nil ⟨rfl, by decide, ?_⟩))))
    have ef : wFault (.str zk) (.str zt) l e = some ("lead" : Str) := by unfold wFault; rw [if_neg (by rw [e1']; simp), if_neg (by rw [e2]; simp), if_pos e3]
    rw [ef] at q
    exact q
  -- the tail
  refine s_cons (s_ifP (b := (!isOneD e tails || (!isOneT e "" && isOneT (.str zk) "ask"))) (ptw (ww_or (ptn (pt_v (pv_def DO hr1 (va_cons (pv_v 4) (va_cons (pv_gtup T.tTAILS) va_nil)) fun P p => ⟨_, _, rfl, he, p⟩))) fun e3 => ?_)) (fun e4 => ?_) fun e4 => s_nil ?_)
  · have e3' : isOneD e tails = true := by simpa using e3
    obtain ⟨zl, rfl⟩ := isOneD_str e3'
    exact ww_or1 (ptw (ww_and (pt_cmp op_ne (pv_v 4) pv_str (neV_str _ _)) fun _ => ww_and1 (pt_cmp op_eq (pv_v 1) (pv_gstr T.cASK) (eqV_str _ _))))
  · refine s_one (s_raise tk T.xW.oe T.xW.iC T.xW.tI FW hr bW T.xW.g (ea_cons (pv_str _ _ _ (ea_nil ⟨rfl, by decide, ?_⟩))))
    have ef : wFault (.str zk) (.str zt) l e = some ("tail" : Str) := by unfold wFault; rw [if_neg (by rw [e1']; simp), if_neg (by rw [e2]; simp), if_neg (by rw [e3]; simp), if_pos e4]
    rw [ef] at q
    exact q
  have ef : wFault (.str zk) (.str zt) l e = none := by unfold wFault; rw [if_neg (by rw [e1']; simp), if_neg (by rw [e2]; simp), if_neg (by rw [e3]; simp), if_neg (by rw [e4]; simp)]
  rw [ef] at q
  -- the slots
  refine s_cons (s_slot (.r J .here) T.sc T.s0 (pv_v 0) (pv_v 1) ?_)
  refine s_cons (s_slot (.r J .here) T.sc T.s1 (pv_v 0) (pv_v 2) ?_)
  refine s_cons (s_slot (.r J .here) T.sc T.s2 (pv_v 0) (pv_v 3) ?_)
  refine s_one (s_slot (.r J .here) T.sc T.s3 (pv_v 0) (pv_v 4) ?_)
  exact q
end
end LK
set_option Elab.async false
set_option linter.all false
set_option maxRecDepth 100000
set_option maxHeartbeats 1000000
namespace LK
open PySem PySem.Spec PyProof.Rows L2 DL
abbrev tyNs : List String := ["NoneType", "bool", "int", "str", "tuple", "list"]
theorem tyD_in {d : D} {t : String} (h : tyD d = some t) : tyNs.contains t = true := by
  cases d <;> cases h <;> decide +kernel
/-- what == , len, isinstance and the properties ask of the class Write -/
structure TxE (K : PySem.W.Frag) : Prop where
  si : SlX.SIsi K (cW K)
  kWW : PySem.W.kitOne K (.ref (cW K)) (.ref (cW K)) = some true
  kT : ∀ t, tyNs.contains t = true → PySem.W.kitOne K (.type t) (.ref (cW K)) = some false
  nT : ∀ t, tyNs.contains t = true → PySem.W.notFirst K (cW K) (.type t) = true
  nW : PySem.W.notFirst K (cW K) (.ref (cW K)) = true
  eF : PySem.W.findIn K (.ref (cW K)) "__eq__" = some (some (.ref (He.ma K (cW K) "__eq__")))
  eI : PySem.W.isFn K (.ref (He.ma K (cW K) "__eq__")) = true
  lF : PySem.W.findIn K (.ref (cW K)) "__len__" = some (some (.ref (He.ma K (cW K) "__len__")))
  lI : PySem.W.isFn K (.ref (He.ma K (cW K) "__len__")) = true
  pK : PropC K (cW K) "kind" (He.ma K (cW K) "kind") (gtr K (cW K) "kind")
  pT : PropC K (cW K) "text" (He.ma K (cW K) "text") (gtr K (cW K) "text")
  pL : PropC K (cW K) "lead" (He.ma K (cW K) "lead") (gtr K (cW K) "lead")
  pE : PropC K (cW K) "tail" (He.ma K (cW K) "tail") (gtr K (cW K) "tail")
  pS : PropC K (cW K) "stays" (He.ma K (cW K) "stays") (gtr K (cW K) "stays")
def TxEB (K : PySem.W.Frag) : Bool := siB K (cW K) && (decide (PySem.W.kitOne K (.ref (cW K)) (.ref (cW K)) = some true) && ((tyNs.all fun t => decide (PySem.W.kitOne K (.type t) (.ref (cW K)) = some false)) && ((tyNs.all fun t => PySem.W.notFirst K (cW K) (.type t)) && (PySem.W.notFirst K (cW K) (.ref (cW K)) &&
  ((He.Fa.meth "Write" "__eq__").ok K && ((He.Fa.meth "Write" "__len__").ok K && (prB K (cW K) "kind" && (prB K (cW K) "text" && (prB K (cW K) "lead" && (prB K (cW K) "tail" && prB K (cW K) "stays"))))))))))
theorem TxEB_ok {K : PySem.W.Frag} (q : TxEB K = true) : TxE K := by
  obtain ⟨q0, q⟩ := He.ba q
  obtain ⟨q1, q⟩ := He.ba q
  obtain ⟨q2, q⟩ := He.ba q
  obtain ⟨q3, q⟩ := He.ba q
  obtain ⟨q4, q⟩ := He.ba q
  obtain ⟨q5, q⟩ := He.ba q
  obtain ⟨q6, q⟩ := He.ba q
  obtain ⟨q7, q⟩ := He.ba q
  obtain ⟨q8, q⟩ := He.ba q
  obtain ⟨q9, q⟩ := He.ba q
  obtain ⟨q10, q11⟩ := He.ba q
  obtain ⟨e1, e2⟩ := He.ba q5
  obtain ⟨e2, _⟩ := He.ba e2
  obtain ⟨l1, l2⟩ := He.ba q6
  obtain ⟨l2, _⟩ := He.ba l2
  exact ⟨siB_ok q0, of_decide_eq_true q1, fun t ht => of_decide_eq_true (List.all_eq_true.mp q2 t (List.contains_iff_mem.mp ht)), fun t ht => List.all_eq_true.mp q3 t (List.contains_iff_mem.mp ht), q4, He.eqO_ok e1, e2, He.eqO_ok l1, l2, prB_ok q7, prB_ok q8, prB_ok q9, prB_ok q10, prB_ok q11⟩
/-- a write, as data -/
def wD (K : PySem.W.Frag) (k t l e : Str) : D := .slo (cW K) [.str l, .str e, .str k, .str t]
def sGet {K : PySem.W.Frag} (i : Nat) : Spec K := fun I ds P _ => ∃ (fs : List D) (d : D), ds = [.slo (cW K) fs] ∧ fs[i]? = some d ∧ P d I
def sStays {K : PySem.W.Frag} : Spec K := fun I ds P _ => ∃ k t l e, ds = [wD K k t l e] ∧ P (.bl (!decide (k = "show"))) I
def sWLen {K : PySem.W.Frag} : Spec K := fun I ds P _ => ∃ k t l e : Str, ds = [wD K k t l e] ∧ t.length ≤ 100000 ∧ P (.int t.length) I
def wEq (k t l e k' t' l' e' : Str) : Bool := decide (k = k') && (decide (t = t') && (decide (l = l') && decide (e = e')))
def sWEq {K : PySem.W.Frag} : Spec K := fun I ds P _ => ∃ k t l e : Str, (∃ k' t' l' e' : Str, ds = [wD K k t l e, wD K k' t' l' e'] ∧ P (.bl (wEq k t l e k' t' l' e')) I) ∨ ∃ (d : D) (ty : String), ds = [wD K k t l e, d] ∧ tyD d = some ty ∧ P (.bl false) I
section
variable {P : Program} {w : World} {K : PySem.W.Frag} {mg : Str → Option Value} {base : Heap} {f : Addr} {fd : FuncData}
theorem ok_kind (F : FnP K "kind" "Write.kind" m_Write_kind f fd) (T : Tx K mg) : FnOk P w K mg base (L2.CX P w) 1 f fd ["self"] (spD K (sGet 2)) := by
  refine fn_d F sc_m_Write_kind (fun I ds P R h => by obtain ⟨fs, d, rfl, _⟩ := h; rfl) fun cdv A outer s H E hr tk po I ds Q R h => ?_
  obtain ⟨fs, d, rfl, hd, q⟩ := h
  exact s_one (s_retP (pv_sl T.sc T.s0 (pv_v 0) hd) q)
theorem ok_text (F : FnP K "text" "Write.text" m_Write_text f fd) (T : Tx K mg) : FnOk P w K mg base (L2.CX P w) 1 f fd ["self"] (spD K (sGet 3)) := by
  refine fn_d F sc_m_Write_text (fun I ds P R h => by obtain ⟨fs, d, rfl, _⟩ := h; rfl) fun cdv A outer s H E hr tk po I ds Q R h => ?_
  obtain ⟨fs, d, rfl, hd, q⟩ := h
  exact s_one (s_retP (pv_sl T.sc T.s1 (pv_v 0) hd) q)
theorem ok_lead (F : FnP K "lead" "Write.lead" m_Write_lead f fd) (T : Tx K mg) : FnOk P w K mg base (L2.CX P w) 1 f fd ["self"] (spD K (sGet 0)) := by
  refine fn_d F sc_m_Write_lead (fun I ds P R h => by obtain ⟨fs, d, rfl, _⟩ := h; rfl) fun cdv A outer s H E hr tk po I ds Q R h => ?_
  obtain ⟨fs, d, rfl, hd, q⟩ := h
  exact s_one (s_retP (pv_sl T.sc T.s2 (pv_v 0) hd) q)
theorem ok_tail (F : FnP K "tail" "Write.tail" m_Write_tail f fd) (T : Tx K mg) : FnOk P w K mg base (L2.CX P w) 1 f fd ["self"] (spD K (sGet 1)) := by
  refine fn_d F sc_m_Write_tail (fun I ds P R h => by obtain ⟨fs, d, rfl, _⟩ := h; rfl) fun cdv A outer s H E hr tk po I ds Q R h => ?_
  obtain ⟨fs, d, rfl, hd, q⟩ := h
  exact s_one (s_retP (pv_sl T.sc T.s3 (pv_v 0) hd) q)
theorem ok_stays (F : FnP K "stays" "Write.stays" m_Write_stays f fd) (T : Tx K mg) : FnOk P w K mg base (L2.CX P w) 1 f fd ["self"] (spD K sStays) := by
  refine fn_d F sc_m_Write_stays (fun I ds P R h => by obtain ⟨k, t, l, e, rfl, _⟩ := h; rfl) fun cdv A outer s H E hr tk po I ds Q R h => ?_
  obtain ⟨k, t, l, e, rfl, q⟩ := h
  exact s_one (s_retP (pv_cmp op_ne (pv_sl T.sc T.s0 (pv_v 0) rfl) (pv_gstr T.cSHOW) (neV_str k "show")) q)
theorem ok_wlen (F : FnP K "__len__" "Write.__len__" m_Write_len f fd) (T : Tx K mg) : FnOk P w K mg base (L2.CX P w) 1 f fd ["self"] (spD K sWLen) := by
  refine fn_d F sc_m_Write_len (fun I ds P R h => by obtain ⟨k, t, l, e, rfl, _⟩ := h; rfl) fun cdv A outer s H E hr tk po I ds Q R h => ?_
  obtain ⟨k, t, l, e, rfl, hl, q⟩ := h
  exact s_one (s_retP (pv_cb call_len_str T.len (va_cons (pv_sl T.sc T.s1 (pv_v 0) rfl) va_nil) (pn_lenS hl)) q)
theorem ok_weq (F : FnP K "__eq__" "Write.__eq__" m_Write_eq f fd) (T : Tx K mg) (TE : TxE K) : FnOk P w K mg base (L2.CX P w) 1 f fd ["self", "other"] (spD K sWEq) := by
  refine fn_d F sc_m_Write_eq (fun I ds P R h => by obtain ⟨k, t, l, e, ⟨k', t', l', e', rfl, _⟩ | ⟨d, ty, rfl, _⟩⟩ := h <;> rfl) fun cdv A outer s H E hr tk po I ds Q R h => ?_
  obtain ⟨k, t, l, e, h⟩ := h
  rcases h with ⟨k', t', l', e', rfl, q⟩ | ⟨d, ty, rfl, hty, q⟩
  · refine s_cons (s_ifF (ptn (k := true) (pt_v (pv_cb (SlX.call_isiSl (.ref (cW K))) T.isi (va_cons (pv_v 1) (va_cons (pv_gref T.gW) va_nil)) (pn_isiSl T.sc TE.si TE.kWW)))) (s_nil ?_))
    refine s_cons (s_ifP (b := (!decide (k = k') || !decide (t = t'))) (ptw (ww_or (pt_cmp op_ne (pv_sl T.sc T.s0 (pv_v 0) rfl) (pv_sl T.sc T.s0 (pv_v 1) rfl) (neV_str k k')) fun _ => ww_or1 (pt_cmp op_ne (pv_sl T.sc T.s1 (pv_v 0) rfl) (pv_sl T.sc T.s1 (pv_v 1) rfl) (neV_str t t')))) (fun e1 => ?_) fun e1 => s_nil ?_)
    · refine s_one (s_retP pv_bl ?_)
      have e2 : wEq k t l e k' t' l' e' = false := by
        unfold wEq
        rcases Bool.or_eq_true_iff.mp e1 with h | h
        · simp only [Bool.not_eq_true'] at h; rw [h]; rfl
        · simp only [Bool.not_eq_true'] at h; rw [h]; simp
      rw [e2] at q
      exact q
    · obtain ⟨h1, h2⟩ := Bool.or_eq_false_iff.mp e1
      have e2 : wEq k t l e k' t' l' e' = (decide (l = l') && decide (e = e')) := by
        unfold wEq
        simp only [Bool.not_eq_false'] at h1 h2
        rw [h1, h2]; rfl
      rw [e2] at q
      exact s_one (s_retP (pv_andB (pv_cmp op_eq (pv_sl T.sc T.s2 (pv_v 0) rfl) (pv_sl T.sc T.s2 (pv_v 1) rfl) (eqV_str l l')) fun _ => pv_one (pv_cmp op_eq (pv_sl T.sc T.s3 (pv_v 0) rfl) (pv_sl T.sc T.s3 (pv_v 1) rfl) (eqV_str e e'))) q)
  · exact s_cons (s_ifT (ptn (k := false) (pt_v (pv_cb call_isi T.isi (va_cons (pv_v 1) (va_cons (pv_gref T.gW) va_nil)) (pn_isiO hty (TE.kT _ (tyD_in hty)))))) (s_one (s_retP pv_bl q)))
end
end LK
set_option Elab.async false
set_option linter.all false
set_option maxRecDepth 100000
set_option maxHeartbeats 1000000
namespace LK
open PySem PySem.Spec PyProof.Rows L2 DL
abbrev psW : List Str := ["self", "kind", "text", "lead", "tail"]
/-- what the module's functions for writes promise -/
structure WP (P : Program) (w : World) (K : PySem.W.Frag) (mg : Str → Option Value) (base : Heap) : Prop where
  T : Tx K mg
  E : TxE K
  isText : Def P w K mg base "is_text" 1 ["value"] [] sIsText
  isOne : Def P w K mg base "is_one_of" 1 ["value", "words"] [] sIsOne
  wr : ∃ fI : FuncData, FnOk P w K mg base (L2.CX P w) 3 (He.ma K (cW K) "__init__") fI psW (spD K sWInit) ∧ (∃ g, KBn K fI psW 3 ["lead", "tail"] g fun vs zs => vs ++ zs) ∧ (∃ g, KBn K fI psW 3 ["tail", "lead"] g fun vs zs => vs ++ zs.reverse) ∧
    ∃ g, KBn K fI psW 3 [] g fun vs _ => vs ++ [V.str "", V.str ""]
  pk : FnR P w K mg base (L2.CX P w) 1 (gtr K (cW K) "kind") (spD K (sGet 2))
  pt : FnR P w K mg base (L2.CX P w) 1 (gtr K (cW K) "text") (spD K (sGet 3))
  pl : FnR P w K mg base (L2.CX P w) 1 (gtr K (cW K) "lead") (spD K (sGet 0))
  pe : FnR P w K mg base (L2.CX P w) 1 (gtr K (cW K) "tail") (spD K (sGet 1))
  ps : FnR P w K mg base (L2.CX P w) 1 (gtr K (cW K) "stays") (spD K sStays)
  eq : FnR P w K mg base (L2.CX P w) 1 (He.ma K (cW K) "__eq__") (spD K sWEq)
  ln : FnR P w K mg base (L2.CX P w) 1 (He.ma K (cW K) "__len__") (spD K sWLen)
theorem raw0 {P : Program} {w : World} {K : PySem.W.Frag} {mg : Str → Option Value} {base : Heap} {CX : CXT} {k : Nat} {f : Addr} {fd : FuncData} {ps : List Str} {sp : Sp} (F : FnOk P w K mg base CX k f fd ps sp) (hb : L2.Binds K fd ps []) : FnR P w K mg base CX k f sp :=
  FnR.imp (F.raw hb .nil) fun vs H Q E h => by rw [List.append_nil]; exact h
abbrev dfW : List He.DefD := [dF "is_text" f_is_text, dF "is_one_of" f_is_one_of, dM "InvalidWrite" "__init__" "InvalidWrite.__init__" m_InvalidWrite_init, dM "Write" "__init__" "Write.__init__" m_Write_init [] [("lead", .str ""), ("tail", .str "")],
  dM "Write" "__eq__" "Write.__eq__" m_Write_eq, dM "Write" "__len__" "Write.__len__" m_Write_len]
abbrev dgW : List He.DefD := [dM "Write" "kind" "Write.kind" m_Write_kind, dM "Write" "text" "Write.text" m_Write_text, dM "Write" "lead" "Write.lead" m_Write_lead, dM "Write" "tail" "Write.tail" m_Write_tail, dM "Write" "stays" "Write.stays" m_Write_stays]
/-- the function objects of these defs are as the text says -/
def Has (K : PySem.W.Frag) (d : He.DefD) : Prop := ∃ fd, FunD K d.name d.qual d.params d.body d.scope (d.dvs K) (d.kws K) (He.fAd K d.at_) fd
def HasG (K : PySem.W.Frag) (d : He.DefD) : Prop := ∃ fd, FunD K d.name d.qual d.params d.body d.scope (d.dvs K) (d.kws K) (pAd K d.at_) fd
theorem _root_.DL.SaysP.has {fn gs : List He.DefD} {ex : PySem.W.Frag → Bool} {w : World} {h : Heap} {K : PySem.W.Frag} (c : SaysP fn gs ex w h K) {d : He.DefD} (hd : d ∈ fn) : Has K d := by
  obtain ⟨i, hi, e⟩ := List.mem_iff_getElem.mp hd
  exact c.def_ i (d := d) (by rw [List.getElem?_eq_getElem hi, e])
theorem _root_.DL.SaysP.hasG {fn gs : List He.DefD} {ex : PySem.W.Frag → Bool} {w : World} {h : Heap} {K : PySem.W.Frag} (c : SaysP fn gs ex w h K) {d : He.DefD} (hd : d ∈ gs) : HasG K d := by
  obtain ⟨i, hi, e⟩ := List.mem_iff_getElem.mp hd
  exact c.get_ i (d := d) (by rw [List.getElem?_eq_getElem hi, e])
theorem wp_of {P : Program} {w : World} {K : PySem.W.Frag} {mg : Str → Option Value} {base : Heap} (T : Tx K mg) (E : TxE K) (c : ∀ d ∈ dfW, Has K d) (g : ∀ d ∈ dgW, HasG K d) : WP P w K mg base := by
  obtain ⟨_, F0⟩ := c _ (List.mem_cons_self)
  obtain ⟨_, F1⟩ := c _ (List.mem_cons_of_mem _ List.mem_cons_self)
  obtain ⟨_, F2⟩ := c _ (List.mem_cons_of_mem _ (List.mem_cons_of_mem _ List.mem_cons_self))
  obtain ⟨fI, F3⟩ := c _ (List.mem_cons_of_mem _ (List.mem_cons_of_mem _ (List.mem_cons_of_mem _ List.mem_cons_self)))
  obtain ⟨_, F4⟩ := c _ (List.mem_cons_of_mem _ (List.mem_cons_of_mem _ (List.mem_cons_of_mem _ (List.mem_cons_of_mem _ List.mem_cons_self))))
  obtain ⟨_, F5⟩ := c _ (List.mem_cons_of_mem _ (List.mem_cons_of_mem _ (List.mem_cons_of_mem _ (List.mem_cons_of_mem _ (List.mem_cons_of_mem _ List.mem_cons_self)))))
  obtain ⟨_, G0⟩ := g _ (List.mem_cons_self)
  obtain ⟨_, G1⟩ := g _ (List.mem_cons_of_mem _ List.mem_cons_self)
  obtain ⟨_, G2⟩ := g _ (List.mem_cons_of_mem _ (List.mem_cons_of_mem _ List.mem_cons_self))
  obtain ⟨_, G3⟩ := g _ (List.mem_cons_of_mem _ (List.mem_cons_of_mem _ (List.mem_cons_of_mem _ List.mem_cons_self)))
  obtain ⟨_, G4⟩ := g _ (List.mem_cons_of_mem _ (List.mem_cons_of_mem _ (List.mem_cons_of_mem _ (List.mem_cons_of_mem _ List.mem_cons_self))))
  have D0 : Def P w K mg base "is_text" 1 ["value"] [] sIsText := Def.of (T.gl _ (by decide +kernel)) F0 (ok_is_text F0 T) fun _ _ _ _ _ _ us hl => match us, hl with | [_], _ => rfl
  have D1 : Def P w K mg base "is_one_of" 1 ["value", "words"] [] sIsOne := Def.of (T.gl _ (by decide +kernel)) F1 (ok_is_one_of F1 T) fun _ _ _ _ _ _ us hl => match us, hl with | [_, _], _ => rfl
  obtain ⟨_, b1⟩ := FunD.kbinds0 (ps := psW) F3 3 ["lead", "tail"] [] (fun us _ ws => us ++ ws) (by simp [He.DefD.kws, dM]) (fun q hq => by simp at hq) (fun r1 _ r3 => r1.append r3) fun D doc pm an cdv ct us mv ws h1 h2 h3 => by
    match us, mv, ws, h1, h2, h3 with
    | [_, _, _], [], [_, _], _, _, _ => rfl
  obtain ⟨_, b2⟩ := FunD.kbinds0 (ps := psW) F3 3 ["tail", "lead"] [] (fun us _ ws => us ++ ws.reverse) (by simp [He.DefD.kws, dM]) (fun q hq => by simp at hq) (fun r1 _ r3 => r1.append r3.reverse) fun D doc pm an cdv ct us mv ws h1 h2 h3 => by
    match us, mv, ws, h1, h2, h3 with
    | [_, _, _], [], [_, _], _, _, _ => rfl
  obtain ⟨_, b0⟩ := FunD.kbinds0 (ps := psW) F3 3 [] [("lead", V.str ""), ("tail", V.str "")] (fun us ms _ => us ++ ms) (by simp [He.DefD.kws, dM]) (fun q hq => by simpa [He.DefD.kws, dM, He.Dv.v] using hq) (fun r1 r2 _ => r1.append r2) fun D doc pm an cdv ct us mv ws h1 h2 h3 => by
    match us, mv, ws, h1, h2, h3 with
    | [_, _, _], [_, _], [], _, _, _ => exact ⟨_, _, _, _, _, _, rfl, rfl, _, _, _, _, _, _, rfl, rfl, rfl⟩
  exact ⟨T, E, D0, D1, ⟨fI, ok_wInit F3 T D0 D1 (ok_initW F2 T) (F2.bindsN fun _ _ _ _ _ _ us hl => match us, hl with | [_, _], _ => rfl), ⟨_, b1⟩, ⟨_, b2⟩, ⟨_, b0⟩⟩,
    raw0 (ok_kind G0 T) (G0.bindsN fun _ _ _ _ _ _ us hl => match us, hl with | [_], _ => rfl), raw0 (ok_text G1 T) (G1.bindsN fun _ _ _ _ _ _ us hl => match us, hl with | [_], _ => rfl),
    raw0 (ok_lead G2 T) (G2.bindsN fun _ _ _ _ _ _ us hl => match us, hl with | [_], _ => rfl), raw0 (ok_tail G3 T) (G3.bindsN fun _ _ _ _ _ _ us hl => match us, hl with | [_], _ => rfl),
    raw0 (ok_stays G4 T) (G4.bindsN fun _ _ _ _ _ _ us hl => match us, hl with | [_], _ => rfl), raw0 (ok_weq F4 T E) (F4.bindsN fun _ _ _ _ _ _ us hl => match us, hl with | [_, _], _ => rfl),
    raw0 (ok_wlen F5 T) (F5.bindsN fun _ _ _ _ _ _ us hl => match us, hl with | [_], _ => rfl)⟩
end LK
set_option Elab.async false
set_option linter.all false
set_option maxRecDepth 100000
set_option maxHeartbeats 4000000
namespace LK
open PySem PySem.Spec PyProof.Rows L2 DL
section
variable {P : Program} {w : World} {K : PySem.W.Frag} {mg : Str → Option Value} {base : Heap} {f : Addr} {fd : FuncData}
theorem ok_mix (F : FnP K "_law_mix" "_law_mix" f_Lmix f fd) (T : Tx K mg) : FnOk P w K mg base (L2.CX P w) 1 f fd ["_law_script", "_law_seed"] (spD K (sMix 14)) := by
  refine fn_d F sc_f_Lmix (fun I ds P R h => by obtain ⟨ns, seed, rfl, _⟩ := h; rfl) fun cdv A outer s H E hr tk po I ds Q R h => ?_
  obtain ⟨ns, seed, rfl, hl, q⟩ := h
  have nd := sc_f_Lmix.nd
  refine s_cons (s_setP 2 (pv_v 1) ?_)
  refine s_cons (s_for po (ei_lst ((pv_v (d := .lsf (ns.map D.int)) 0).ev ⟨_, .inr rfl, fun i δ' I' => I' = I ∧ ∃ (st : Int) (o : Option D), δ' = [some (.lsf (ns.map D.int)), some (.int seed), some (.int st), o], ⟨rfl, seed, none, rfl⟩, ?_, ?_⟩)))
  · rintro i d δ' I' hd ⟨rfl, st, o, rfl⟩
    obtain ⟨n, hn⟩ : ∃ n, d = .int n := by
      rw [List.getElem?_map] at hd
      cases e : ns[i]? with
      | none => rw [e] at hd; cases hd
      | some n => rw [e] at hd; exact ⟨n, (Option.some.inj hd).symm⟩
    subst hn
    refine ⟨_, [3], bind_name 3, ?_⟩
    refine s_one (s_setP 2 (pv_op op_modN (pv_ct call_int1 T.int (va_cons (pv_op op_add (pv_op op_add (pv_op op_mul (pv_v 2) pv_int (p2_mul (.inr (by decide)))) (pv_op op_modN (pv_ct call_int1 T.int (va_cons (pv_v 3) va_nil) pn_int) pv_int (p2_mod (by decide))) p2_add) pv_int p2_add) va_nil) pn_int) pv_int (p2_mod (by decide))) ?_)
    exact ⟨rfl, _, _, rfl⟩
  · rintro δ' I' ⟨rfl, st, o, rfl⟩
    exact s_one (s_ret (ev_reg (ev_lstMM (ea_cons ((pv_v 2).ev (ea_cons (ev_ct call_list_of T.list (ea_cons ((pv_v 0).ev (ea_nil (on_listM (.inr (.inl rfl)) fun b hb => ea_cons (pv_int.ev (ea_cons (pv_int.ev (ea_nil ⟨by show 4 ≤ 1000; decide, fun a ha => ⟨_, iDr_of2 hl, q a b⟩⟩)))))))))))))))
theorem modm {k : Int} {l : Nat} : ∃ j : Nat, k.fmod (if (l : Int) > 1 then (l : Int) else 1) = j ∧ (j < l ∨ (l = 0 ∧ j = 0)) := by
  by_cases h : (l : Int) > 1
  · rw [if_pos h, Int.fmod_eq_emod_of_nonneg _ (by omega)]
    have h1 := Int.emod_nonneg k (show (l : Int) ≠ 0 by omega)
    have h2 := Int.emod_lt_of_pos k (show (0 : Int) < l by omega)
    exact ⟨(k % (l : Int)).toNat, by omega, by omega⟩
  · rw [if_neg h]
    exact ⟨0, by rw [Int.fmod_one]; rfl, by omega⟩
theorem atI_nat' {α : Type} {xs : List α} {j : Nat} {x : α} (h : xs[j]? = some x) : atI xs (j : Int) = some x := by
  have hl := (List.getElem?_eq_some_iff.mp h).1
  unfold atI ixN
  rw [if_pos (by omega), if_pos (by omega)]
  simpa using h
theorem ixN_nat {n j : Nat} (h : j < n) : ixN n (j : Int) = some j := by
  unfold ixN
  rw [if_pos (by omega), if_pos (by omega)]
  simp
theorem fmod_pos {z n : Int} (h : 0 < n) : 0 ≤ z.fmod n ∧ z.fmod n < n := by
  rw [Int.fmod_eq_emod_of_nonneg _ (by omega)]
  exact ⟨Int.emod_nonneg _ (by omega), Int.emod_lt_of_pos _ h⟩
theorem ok_next (F : FnP K "_law_next" "_law_next" f_Lnext f fd) (T : Tx K mg) : FnOk P w K mg base (L2.CX P w) 1 f fd ["_law_h", "_law_bound"] (spD K sNext) := by
  refine fn_d F sc_f_Lnext (fun I ds P R h => by obtain ⟨a, b, c, n, rfl, _⟩ := h; rfl) fun cdv A outer s H E hr tk po I ds Q R h => ?_
  obtain ⟨a, b, c, n, rfl, rfl, n0, n1, q⟩ := h
  have nd := sc_f_Lnext.nd
  refine iDr_open fun st k m ns hl => ?_
  have eA : ∀ st k ns, c.fill (iDrC K a b st k m ns) = (c.comp (.l .here (iLst K b (ns.map D.int)))).fill (iLst K a [.int st, .adr b, .int k, .int m]) := fun st k ns => (fill_comp (I := iLst K a [.int st, .adr b, .int k, .int m]) (.l .here (iLst K b (ns.map D.int))) c).symm
  have eB : ∀ st k ns, c.fill (iDrC K a b st k m ns) = (c.comp (.r (iLst K a [.int st, .adr b, .int k, .int m]) .here)).fill (iLst K b (ns.map D.int)) := fun st k ns => (fill_comp (I := iLst K b (ns.map D.int)) (.r (iLst K a [.int st, .adr b, .int k, .int m]) .here) c).symm
  -- the place in the script
  obtain ⟨j, hj, hjl⟩ := modm (k := k) (l := (ns.map D.int).length)
  rw [List.length_map] at hjl
  obtain ⟨z, hz, hz0⟩ : ∃ z : Int, (ns.map D.int ++ [D.int 0])[j]? = some (.int z) ∧ (ns = [] → z = 0) := by
    rcases hjl with h | ⟨h, h0⟩
    · exact ⟨ns[j], by rw [List.getElem?_append_left (by simpa using h), List.getElem?_map, List.getElem?_eq_getElem h]; rfl, fun e => by subst e; simp at h⟩
    · have e : ns = [] := List.length_eq_zero_iff.mp h
      subst e h0
      exact ⟨0, rfl, fun _ => rfl⟩
  have m0 : (if ((ns.map D.int).length : Int) > 1 then ((ns.map D.int).length : Int) else 1) ≠ 0 := by split <;> omega
  refine s_cons (s_setP (d := .int z) 2 (pv_ix ix_list (pv_op op_cat (pv_ix ix_list (pv_v 0) pv_int (p2_ixM _ (by rfl) (eA _ _ _))) (pv_lst (va_cons pv_int va_nil)) (p2_catMK _ (by rw [List.length_map]; show ns.length + 1 ≤ _; omega) (eB _ _ _))) (pv_op op_modN (pv_ct call_int1 T.int (va_cons (pv_ix ix_list (pv_v 0) pv_int (p2_ixM _ (by rfl) (eA _ _ _))) va_nil) pn_int) (pv_cb (call_max2 rfl) T.max (va_cons pv_int (va_cons (pv_cb call_len_seq T.len (va_cons (pv_ix ix_list (pv_v 0) pv_int (p2_ixM _ (by rfl) (eA _ _ _))) va_nil) (pn_lenM _ (eB _ _ _))) va_nil)) pn_max2) (p2_mod m0)) (p2_ixL (by rw [hj]; exact atI_nat' hz))) ?_)
  refine s_cons (s_ifP (pt_cmp op_ge (pv_v 2) (pv_op op_pow pv_int pv_int (p2_pow ⟨by decide, by decide, by decide⟩)) p2_ge) (fun e => ?_) fun e => s_nil ?_)
  · have e2 : (10 : Int) ^ (18 : Int).toNat ≤ z := by simpa using e
    have hjn : j < ns.length := by
      rcases hjl with h | ⟨h, h0⟩
      · exact h
      · have e3 : ns = [] := List.length_eq_zero_iff.mp h
        rw [hz0 e3] at e2
        exact absurd e2 (by decide)
    refine s_cons (s_setItem (d := .int (z.fdiv n)) _ (pv_ix ix_list (pv_v 0) pv_int (p2_ixM _ (by rfl) (eA _ _ _))) (pv_op op_modN (pv_ct call_int1 T.int (va_cons (pv_ix ix_list (pv_v 0) pv_int (p2_ixM _ (by rfl) (eA _ _ _))) va_nil) pn_int) (pv_cb call_len_seq T.len (va_cons (pv_ix ix_list (pv_v 0) pv_int (p2_ixM _ (by rfl) (eA _ _ _))) va_nil) (pn_lenM _ (eB _ _ _))) (p2_mod (by rw [List.length_map]; omega))) (pv_op op_fdivN (pv_v 2) (pv_v 1) (p2_fdiv ⟨by omega, by omega⟩)) (j := j) ?_ ?_ (eB _ _ _))
    · have el : (if ((ns.map D.int).length : Int) > 1 then ((ns.map D.int).length : Int) else 1) = ((ns.map D.int).length : Int) := by
        rw [List.length_map]
        split <;> omega
      rw [← el, hj]
      exact ixN_nat (by rw [List.length_map]; exact hjn)
    · refine s_one (s_ret (ev_reg (PV.ev (pv_op op_modN (pv_ct call_int1 T.int (va_cons (pv_v 2) va_nil) pn_int) (pv_v 1) (p2_mod (by omega))) ⟨c.fill (iDr K a b), ?_, q _ (fmod_pos n0).1 (fmod_pos n0).2⟩)))
      show DL.Sub ((c.comp (.r (iLst K a [.int st, .adr b, .int k, .int m]) .here)).fill (iLst K b ((ns.map D.int).set j (.int (z.fdiv n))))) (c.fill (iDr K a b))
      rw [← List.map_set, ← eB st k (ns.set j (z.fdiv n))]
      exact (iDr_of (by rw [List.length_set]; exact hl)).fill c
  · refine s_cons (s_setItem (d := .int ((st * 48271 + z * 69621 + 11).fmod 2147483647)) _ (pv_v 0) pv_int (pv_op op_modN (pv_ct call_int1 T.int (va_cons (pv_op op_add (pv_op op_add (pv_op op_mul (pv_ix ix_list (pv_v 0) pv_int (p2_ixM _ (by rfl) (eA _ _ _))) pv_int (p2_mul (.inr (by decide)))) (pv_op op_mul (pv_v 2) pv_int (p2_mul (.inr (by decide)))) p2_add) pv_int p2_add) va_nil) pn_int) pv_int (p2_mod (by decide))) (j := 0) (by rfl) ?_ (eA _ _ _))
    refine SX.eq (eA _ k ns).symm ?_
    refine s_cons (s_setItem (d := .int (k + 1)) _ (pv_v 0) pv_int (pv_op op_add (pv_ix ix_list (pv_v 0) pv_int (p2_ixM _ (by rfl) (eA _ _ _))) pv_int p2_add) (j := 2) (by rfl) ?_ (eA _ _ _))
    refine SX.eq (eA _ (k + 1) ns).symm ?_
    exact s_one (s_ret (ev_reg (PV.ev (pv_op op_modN (pv_ct call_int1 T.int (va_cons (pv_op op_fdivN (pv_ix ix_list (pv_v 0) pv_int (p2_ixM _ (by rfl) (eA _ _ _))) pv_int (p2_fdiv ⟨by decide, by decide⟩)) va_nil) pn_int) (pv_v 1) (p2_mod (by omega))) ⟨c.fill (iDr K a b), (iDr_of hl).fill c, q _ (fmod_pos n0).1 (fmod_pos n0).2⟩)))
end
abbrev ALPH : List Nat := [97, 98, 120, 39, 32, 48, 47, 57, 126, 122, 59, 58]
def sLetters {K : PySem.W.Frag} : Spec K := fun I ds P _ => ∃ (a b : Addr) (c : Rc K) (most : Int), ds = [.adr a, .int most] ∧ I = c.fill (iDr K a b) ∧ 3 ≤ most ∧ most < 10000 ∧
  ∀ s : Str, (s.length : Int) ≤ most → (∀ ch ∈ s.cps.toList, ch ∈ ALPH) → P (.str s) I
theorem lenStr_le {s : Str} {n : Int} (h : (s.length : Int) ≤ n) (hn : n < 10000) : s.length ≤ 100000 := by omega
section
variable {P : Program} {w : World} {K : PySem.W.Frag} {mg : Str → Option Value} {base : Heap} {f : Addr} {fd : FuncData}
theorem ok_letters (F : FnP K "_law_letters" "_law_letters" f_Lletters f fd) (T : Tx K mg) (DN : Def P w K mg base "_law_next" 1 ["_law_h", "_law_bound"] [] sNext) : FnOk P w K mg base (L2.CX P w) 2 f fd ["_law_h", "_law_most"] (spD K sLetters) := by
  refine fn_d F sc_f_Lletters (fun I ds P R h => by obtain ⟨a, b, c, m, rfl, _⟩ := h; rfl) fun cdv A outer s H E hr tk po I ds Q R h => ?_
  obtain ⟨a, b, c, m, rfl, rfl, m0, m1, q⟩ := h
  have nd := sc_f_Lletters.nd
  -- the signs
  refine s_cons (s_set 2 (ev_ix ix_list (PV.ev (pv_lst (va_cons pv_str (va_cons pv_str (va_cons pv_str (va_cons pv_str va_nil))))) (ev_nextP tk DN hr c (pv_v 0) pv_int rfl (by decide) fun k k0 k1 => o2_ixL k0 k1 fun d hd => ?_))))
  obtain ⟨sg, rfl, hsg, hsl⟩ : ∃ sg : Str, d = .str sg ∧ (∀ ch ∈ sg.cps.toList, ch ∈ ALPH) ∧ 0 < sg.cps.toList.length ∧ sg.cps.toList.length ≤ 10 := by
    simp only [List.mem_cons, List.not_mem_nil, or_false] at hd
    rcases hd with rfl | rfl | rfl | rfl <;> exact ⟨_, rfl, by decide +kernel, by decide +kernel, by decide +kernel⟩
  -- the size
  refine s_cons (s_set 3 (ev_ix ix_list (ev_lst ?_)))
  iterate 6 refine ea_cons (pv_int.ev ?_)
  refine ea_cons ((pv_v 1).ev ?_)
  refine ea_cons (ev_nextP tk DN hr c (pv_v 0) (pv_op op_add (pv_v 1) pv_int p2_add) rfl (by omega) fun j j0 j1 => ea_nil ⟨by show 8 ≤ 1000; decide, ?_⟩)
  refine ev_nextP tk DN hr c (pv_v 0) pv_int rfl (by decide) fun k k0 k1 => o2_ixL k0 k1 fun d hd => ?_
  obtain ⟨z, rfl, z0, z1⟩ : ∃ z : Int, d = D.int z ∧ 0 ≤ z ∧ z ≤ m := by
    simp only [List.mem_cons, List.not_mem_nil, or_false] at hd
    rcases hd with rfl | rfl | rfl | rfl | rfl | rfl | rfl | rfl <;> exact ⟨_, rfl, by omega, by omega⟩
  -- the text
  refine s_one (s_ret (ev_join (pv_str (w := "")) (ev_lc [("_law_k", 4)] nd (blkOk_by (by rfl)) (ei_range1 T.range ((pv_v 3).ev ⟨z, rfl, by omega, by omega, ?_⟩)))))
  refine ⟨by unfold DL.intsFrom; simp; omega, fun i ys => ∃ cs : List Nat, ys = (cs.map one).map D.str ∧ cs.length = i ∧ ∀ ch ∈ cs, ch ∈ ALPH, fun d => [some (.adr a), some (.int m), some (.str sg), some (.int z), some d], ⟨[], rfl, rfl, fun _ h => nomatch h⟩, ?_, ?_⟩
  · rintro i d ys hd ⟨cs, rfl, hcl, hca⟩
    refine ⟨fun b => b = true, fun J s H C cl fp => ⟨bind_name 4, ets_nil ⟨rfl, rfl⟩⟩, fun _ J s H C cl fp => ?_, fun e => nomatch (show false = true from e)⟩
    refine ev_ix ix_str ((pv_v 2).ev (ev_nextP takesF DN hr (.l c J) (pv_v 0) (pv_cb call_len_str T.len (va_cons (pv_v 2) va_nil) (pn_lenS (by rw [str_len]; omega))) rfl (by rw [str_len]; omega) fun k k0 k1 => ?_))
    obtain ⟨n, rfl⟩ : ∃ n : Nat, k = n := ⟨k.toNat, by omega⟩
    have hn : n < sg.cps.toList.length := by rw [str_len] at k1; omega
    refine p2_ixS (c := sg.cps.toList[n]) (by rw [str_len, sizeLine_eq]; omega) (atI_nat' (List.getElem?_eq_getElem hn)) _ ⟨rfl, cs ++ [sg.cps.toList[n]], ?_, by simp [hcl], ?_⟩
    · rw [List.map_append, List.map_append]; rfl
    · intro ch hch
      rcases List.mem_append.mp hch with h | h
      · exact hca ch h
      · rw [List.mem_singleton.mp h]; exact hsg _ (List.getElem_mem hn)
  · rintro ys ⟨cs, rfl, hcl, hca⟩
    have hl : cs.length = z.toNat := by rw [hcl]; unfold DL.intsFrom; simp
    refine ⟨cs.map one, rfl, ?_, ?_⟩
    · have e : ((cs.map one).map (·.length)).sum = cs.length := by
        clear hcl hca hl
        induction cs with
        | nil => rfl
        | cons c cs ih => simp only [List.map_cons, List.sum_cons, ih, List.length_cons]; show 1 + _ = _; omega
      rw [e]
      show cs.length + (cs.map one).length * 0 ≤ _
      omega
    · rw [join_ones _ rfl]
      refine q _ ?_ ?_
      · rw [str_len]; show (cs.length : Int) ≤ m; omega
      · exact hca
end
end LK
set_option Elab.async false
set_option linter.all false
set_option maxRecDepth 100000
set_option maxHeartbeats 1000000
namespace LK
open PySem PySem.Spec PyProof.Rows L2 DL
/-- a good write, but for its length -/
structure GoodW (k t l e : Str) : Prop where
  gk : k ∈ kinds
  gl : l ∈ leads
  ge : e ∈ tails
  gr : k = "reply" → l = ""
  ga : k = "ask" → e = ""
  gn : k = "ask" ∨ k = "reply" → 0 < t.length
  gs : ∀ c ∈ t.cps.toList, c ∈ SIGNS.cps.toList
theorem strOk_of {t : Str} (h : ∀ c ∈ t.cps.toList, c ∈ SIGNS.cps.toList) : PyData.strOk t = true := by
  unfold PyData.strOk
  rw [← Array.all_toList]
  refine List.all_eq_true.mpr fun c hc => ?_
  have k : ∀ c ∈ SIGNS.cps.toList, (decide (c < 1114112)) = true := by decide +kernel
  exact k c (h c hc)
theorem len_of {xs : List Str} {n : Nat} (h : xs.all (fun x => decide (x.length ≤ n)) = true) {x : Str} (hx : x ∈ xs) : x.length ≤ n := of_decide_eq_true (List.all_eq_true.mp h x hx)
theorem sok_of {xs : List Str} (h : xs.all (fun x => PyData.strOk x) = true) {x : Str} (hx : x ∈ xs) : PyData.strOk x = true := List.all_eq_true.mp h x hx
section
variable {k t l e : Str}
theorem GoodW.none (g : GoodW k t l e) (h : t.length ≤ 40) : wFault (.str k) (.str t) (.str l) (.str e) = none := by
  have h1 : isOneD (.str k) kinds = true := decide_eq_true g.gk
  have h2 : isTextD (.str t) = true := by
    show (decide (t.length ≤ 40) && t.cps.toList.all fun c => decide (c ∈ SIGNS.cps.toList)) = true
    rw [decide_eq_true h, Bool.true_and]
    exact List.all_eq_true.mpr fun c hc => decide_eq_true (g.gs c hc)
  have h3 : isOneD (.str l) leads = true := decide_eq_true g.gl
  have h4 : isOneD (.str e) tails = true := decide_eq_true g.ge
  unfold wFault
  rw [h1, h2, h3, h4, if_neg (by simp), if_neg, if_neg, if_neg]
  · simp only [isOneT, Bool.not_true, Bool.false_or, Bool.and_eq_true, Bool.not_eq_true', decide_eq_false_iff_not, decide_eq_true_eq, not_and]
    exact fun h5 h6 => h5 (g.ga h6)
  · simp only [isOneT, Bool.not_true, Bool.false_or, Bool.and_eq_true, Bool.not_eq_true', decide_eq_false_iff_not, decide_eq_true_eq, not_and]
    exact fun h5 h6 => h5 (g.gr h6)
  · simp only [isOneT, isOneD, Bool.not_true, Bool.false_or, Bool.and_eq_true, decide_eq_true_eq, not_and]
    intro h5 h6
    have h7 := g.gn (by simpa using h6)
    rw [h5] at h7
    exact absurd h7 (by decide)
theorem GoodW.okk (g : GoodW k t l e) : okV (.str k) := ⟨⟨_, rfl⟩, fun s z => by cases z; exact len_of (by decide +kernel) g.gk⟩
theorem GoodW.okl (g : GoodW k t l e) : okV (.str l) := ⟨⟨_, rfl⟩, fun s z => by cases z; exact len_of (by decide +kernel) g.gl⟩
theorem GoodW.oke (g : GoodW k t l e) : okV (.str e) := ⟨⟨_, rfl⟩, fun s z => by cases z; exact len_of (by decide +kernel) g.ge⟩
theorem GoodW.okt (h : t.length ≤ 40) : okV (.str t) := ⟨⟨_, rfl⟩, fun s z => by cases z; omega⟩
theorem GoodW.bare (g : GoodW k t l e) : GoodW k t "" "" := ⟨g.gk, by decide +kernel, by decide +kernel, fun _ => rfl, fun _ => rfl, g.gn, g.gs⟩
theorem GoodW.okEq (g : GoodW k t l e) : okEq (.tup [.str k, .str t, .str l, .str e]) = true := by
  have e0 : PyData.canLay0 (pyD (.tup [.str k, .str t, .str l, .str e])) = (PyData.strOk k && (PyData.strOk t && (PyData.strOk l && (PyData.strOk e && true)))) := rfl
  have e1 : PyData.depth (pyD (.tup [.str k, .str t, .str l, .str e])) = 1 := rfl
  show (true && (PyData.canLay0 (pyD (.tup [.str k, .str t, .str l, .str e])) && decide (PyData.depth (pyD (.tup [.str k, .str t, .str l, .str e])) ≤ 64))) = true
  rw [e0, e1, sok_of (xs := kinds) (by decide +kernel) g.gk, strOk_of g.gs, sok_of (xs := leads) (by decide +kernel) g.gl, sok_of (xs := tails) (by decide +kernel) g.ge]
  rfl
theorem eqv_tup4 {k' t' l' e' : Str} : PyData.eqv (pyD (.tup [.str k, .str t, .str l, .str e])) (pyD (.tup [.str k', .str t', .str l', .str e'])) = wEq k t l e k' t' l' e' := by
  show ((k == k') && ((t == t') && ((l == l') && ((e == e') && true)))) = _
  unfold wEq
  simp only [Bool.and_true]
  rfl
end
section
variable {X : Cx} {I : Iv X.K} {a b c d e : Expr} {δ : DEnv} {pos p q1 q2 : Pos} {k t l e' : Str}
/-- Write(k, t, lead=l, tail=e) -/
theorem pv_write (Q : WP X.prog X.w X.K X.mg X.base) (hr : Room 4 X.A) (ha : PV X I a δ (.str k)) (hb : PV X I b δ (.str t)) (hl : PV X I c δ (.str l)) (he : PV X I d δ (.str e')) (g : GoodW k t l e') (h : t.length ≤ 40) (hg : Gl X "Write" := by rfl)
    (hall : (backToKw pos (keywordEach [⟨some "lead", c, q1⟩, ⟨some "tail", d, q2⟩] X.env)).all (·.1.isSome) = true := by rfl) (hks : (backToKw pos (keywordEach [⟨some "lead", c, q1⟩, ⟨some "tail", d, q2⟩] X.env)).filterMap (·.1) = (["lead", "tail"] : List Str) := by rfl)
    (h1 : starEach [a, b] X.env = (false, eval a X.env) :: starEach [b] X.env := by rfl) (h2 : starEach [b] X.env = (false, eval b X.env) :: starEach [] X.env := by rfl)
    (hpl : ((backTo pos (starEach [a, b] X.env)).any (·.1) || (backToKw pos (keywordEach [⟨some "lead", c, q1⟩, ⟨some "tail", d, q2⟩] X.env)).any (·.1.isNone)) = false := by rfl) : PV X I (.Call (.Name "Write" p) [a, b] [⟨some "lead", c, q1⟩, ⟨some "tail", d, q2⟩] pos) δ (wD X.K k t l e') := fun W R P pp => by
  obtain ⟨fI, F, ⟨_, b1⟩, _, _⟩ := Q.wr
  refine EvX.weak (ev_makeSl (fun ds zs => ds ++ zs) takesF Q.T.mkW F hr Q.T.gW b1 (fun r1 r2 => r1.append r2) (ea_cons (ha.ev (ea_cons (hb.ev (ea_nil (ek_cons (hl.ev (ek_cons (he.ev (ek_nil ⟨rfl, rfl, fun y dy na => ?_⟩))))))) h2)) h1) hg (by decide) hall hks h1 hpl)
  refine ⟨y, dy, I, .str k, .str t, .str l, .str e', rfl, rfl, g.okk, GoodW.okt h, g.okl, g.oke, ?_⟩
  rw [g.none h]
  exact ⟨rfl, [.str l, .str e', .str k, .str t], rfl, pp⟩
/-- .. tail=e, lead=l -/
theorem pv_writeTL (Q : WP X.prog X.w X.K X.mg X.base) (hr : Room 4 X.A) (ha : PV X I a δ (.str k)) (hb : PV X I b δ (.str t)) (he : PV X I c δ (.str e')) (hl : PV X I d δ (.str l)) (g : GoodW k t l e') (h : t.length ≤ 40) (hg : Gl X "Write" := by rfl)
    (hall : (backToKw pos (keywordEach [⟨some "tail", c, q1⟩, ⟨some "lead", d, q2⟩] X.env)).all (·.1.isSome) = true := by rfl) (hks : (backToKw pos (keywordEach [⟨some "tail", c, q1⟩, ⟨some "lead", d, q2⟩] X.env)).filterMap (·.1) = (["tail", "lead"] : List Str) := by rfl)
    (h1 : starEach [a, b] X.env = (false, eval a X.env) :: starEach [b] X.env := by rfl) (h2 : starEach [b] X.env = (false, eval b X.env) :: starEach [] X.env := by rfl)
    (hpl : ((backTo pos (starEach [a, b] X.env)).any (·.1) || (backToKw pos (keywordEach [⟨some "tail", c, q1⟩, ⟨some "lead", d, q2⟩] X.env)).any (·.1.isNone)) = false := by rfl) : PV X I (.Call (.Name "Write" p) [a, b] [⟨some "tail", c, q1⟩, ⟨some "lead", d, q2⟩] pos) δ (wD X.K k t l e') := fun W R P pp => by
  obtain ⟨fI, F, _, ⟨_, b1⟩, _⟩ := Q.wr
  refine EvX.weak (ev_makeSl (fun ds zs => ds ++ zs.reverse) takesF Q.T.mkW F hr Q.T.gW b1 (fun r1 r2 => r1.append (reps_rev r2)) (ea_cons (ha.ev (ea_cons (hb.ev (ea_nil (ek_cons (he.ev (ek_cons (hl.ev (ek_nil ⟨rfl, rfl, fun y dy na => ?_⟩))))))) h2)) h1) hg (by decide) hall hks h1 hpl)
  refine ⟨y, dy, I, .str k, .str t, .str l, .str e', rfl, rfl, g.okk, GoodW.okt h, g.okl, g.oke, ?_⟩
  rw [g.none h]
  exact ⟨rfl, [.str l, .str e', .str k, .str t], rfl, pp⟩
/-- Write(k, t) -/
theorem pv_write0 (Q : WP X.prog X.w X.K X.mg X.base) (hr : Room 4 X.A) (ha : PV X I a δ (.str k)) (hb : PV X I b δ (.str t)) (g : GoodW k t l e') (h : t.length ≤ 40) (hg : Gl X "Write" := by rfl)
    (hall : (backToKw pos (keywordEach [] X.env)).all (·.1.isSome) = true := by rfl) (hks : (backToKw pos (keywordEach [] X.env)).filterMap (·.1) = ([] : List Str) := by rfl)
    (h1 : starEach [a, b] X.env = (false, eval a X.env) :: starEach [b] X.env := by rfl) (h2 : starEach [b] X.env = (false, eval b X.env) :: starEach [] X.env := by rfl)
    (hpl : ((backTo pos (starEach [a, b] X.env)).any (·.1) || (backToKw pos (keywordEach [] X.env)).any (·.1.isNone)) = false := by rfl) : PV X I (.Call (.Name "Write" p) [a, b] [] pos) δ (wD X.K k t "" "") := fun W R P pp => by
  obtain ⟨fI, F, _, _, ⟨_, b1⟩⟩ := Q.wr
  refine EvX.weak (ev_makeSl (ks := []) (fun ds zs => ds ++ [.str "", .str ""]) takesF Q.T.mkW F hr Q.T.gW b1 (fun r1 r2 => r1.append (ds := _) (es := [.str "", .str ""]) ⟨.str "", [.str ""], rfl, rfl, .str "", [], rfl, rfl, rfl⟩) (ea_cons (ha.ev (ea_cons (hb.ev (ea_nil (ek_nil ⟨rfl, rfl, fun y dy na => ?_⟩))) h2)) h1) hg (by decide) hall hks h1 hpl)
  refine ⟨y, dy, I, .str k, .str t, .str "", .str "", rfl, rfl, g.okk, GoodW.okt h, g.bare.okl, g.bare.oke, ?_⟩
  rw [g.bare.none h]
  exact ⟨rfl, [.str "", .str "", .str k, .str t], rfl, pp⟩
/-- its parts -/
theorem pv_wkind (Q : WP X.prog X.w X.K X.mg X.base) (hr : Room 2 X.A) (ha : PV X I a δ (wD X.K k t l e')) (hb : attributeBase a "kind" X.env (eval a X.env) = eval a X.env := by rfl) : PV X I (.Attribute a "kind" pos) δ (.str k) := pv_prop Q.T.sc Q.E.pK Q.pk hr ha (fun P p => ⟨_, _, rfl, rfl, p⟩) hb
theorem pv_wtext (Q : WP X.prog X.w X.K X.mg X.base) (hr : Room 2 X.A) (ha : PV X I a δ (wD X.K k t l e')) (hb : attributeBase a "text" X.env (eval a X.env) = eval a X.env := by rfl) : PV X I (.Attribute a "text" pos) δ (.str t) := pv_prop Q.T.sc Q.E.pT Q.pt hr ha (fun P p => ⟨_, _, rfl, rfl, p⟩) hb
theorem pv_wlead (Q : WP X.prog X.w X.K X.mg X.base) (hr : Room 2 X.A) (ha : PV X I a δ (wD X.K k t l e')) (hb : attributeBase a "lead" X.env (eval a X.env) = eval a X.env := by rfl) : PV X I (.Attribute a "lead" pos) δ (.str l) := pv_prop Q.T.sc Q.E.pL Q.pl hr ha (fun P p => ⟨_, _, rfl, rfl, p⟩) hb
theorem pv_wtail (Q : WP X.prog X.w X.K X.mg X.base) (hr : Room 2 X.A) (ha : PV X I a δ (wD X.K k t l e')) (hb : attributeBase a "tail" X.env (eval a X.env) = eval a X.env := by rfl) : PV X I (.Attribute a "tail" pos) δ (.str e') := pv_prop Q.T.sc Q.E.pE Q.pe hr ha (fun P p => ⟨_, _, rfl, rfl, p⟩) hb
theorem pv_wstays (Q : WP X.prog X.w X.K X.mg X.base) (hr : Room 2 X.A) (ha : PV X I a δ (wD X.K k t l e')) (hb : attributeBase a "stays" X.env (eval a X.env) = eval a X.env := by rfl) : PV X I (.Attribute a "stays" pos) δ (.bl (!decide (k = "show"))) := pv_prop Q.T.sc Q.E.pS Q.ps hr ha (fun P p => ⟨k, t, l, e', rfl, p⟩) hb
/-- len(w) -/
theorem pv_wlen (Q : WP X.prog X.w X.K X.mg X.base) (hr : Room 2 X.A) (ha : PV X I a δ (wD X.K k t l e')) (h : t.length ≤ 100000) (hm : X.mg "len" = none := by exact Tx.len (by assumption)) (hg : Gl X "len" := by rfl) (h1 : starEach [a] X.env = (false, eval a X.env) :: starEach [] X.env := by rfl) (hpl : (backTo pos (starEach [] X.env)).any (·.1) = false := by rfl) : PV X I (.Call (.Name "len" p) [a] [] pos) δ (.int t.length) :=
  pv_cb (call_lenOwn Q.E.lF Q.E.lI Q.ln hr takesPF) hm (va_cons ha va_nil h1) (pn_lenOwn (by omega) fun P p => ⟨k, t, l, e', rfl, h, p⟩) (hg := hg) (he := h1) (hpl := hpl)
end
end LK
set_option Elab.async false
set_option linter.all false
set_option maxRecDepth 100000
set_option maxHeartbeats 1000000
namespace LK
open PySem PySem.Spec PyProof.Rows L2 DL
abbrev forms5 : List Str := ["say", "ask", "reply", "show", "line"]
/-- a random write of a form -/
structure OneOk (form : Str) (most : Int) (k t l e : Str) : Prop where
  g : GoodW k t l e
  f : k = if form = "line" then ("say" : Str) else form
  ln : form = "line" → l = "" ∧ e = "newline"
  z : ∃ z : Str, (z.length : Int) ≤ most ∧ (∀ ch ∈ z.cps.toList, ch ∈ ALPH) ∧ t = if k = "ask" then z ++ "?" else if k = "reply" then z ++ "y" else z
def sOne {K : PySem.W.Frag} : Spec K := fun I ds P _ => ∃ (a b : Addr) (c : Rc K) (form : Str) (most : Int), ds = [.adr a, .str form, .int most] ∧ I = c.fill (iDr K a b) ∧ form ∈ forms5 ∧ 3 ≤ most ∧ most < 9000 ∧
  ∀ k t l e, OneOk form most k t l e → P (.tup [.str k, .str t, .str l, .str e]) I
theorem alph_signs : ∀ c ∈ ALPH, c ∈ SIGNS.cps.toList := by decide +kernel
theorem one_q : (∀ c ∈ (Str.ofString "?").cps.toList, c ∈ SIGNS.cps.toList) ∧ (∀ c ∈ (Str.ofString "y").cps.toList, c ∈ SIGNS.cps.toList) := by decide +kernel
theorem app_signs {z y : Str} (h1 : ∀ c ∈ z.cps.toList, c ∈ ALPH) (h2 : ∀ c ∈ y.cps.toList, c ∈ SIGNS.cps.toList) : ∀ c ∈ (z ++ y).cps.toList, c ∈ SIGNS.cps.toList := fun c hc => by
  rw [str_app] at hc
  exact (List.mem_append.mp hc).elim (fun h => alph_signs c (h1 c h)) (h2 c)
theorem app_len {z y : Str} : (z ++ y).length = z.length + y.length := by rw [str_len, str_app, List.length_append, ← str_len, ← str_len]
section
variable {P : Program} {w : World} {K : PySem.W.Frag} {mg : Str → Option Value} {base : Heap} {f : Addr} {fd : FuncData}
theorem ok_one (F : FnP K "_law_one" "_law_one" f_Lone f fd) (DN : Def P w K mg base "_law_next" 1 ["_law_h", "_law_bound"] [] sNext) (DL : Def P w K mg base "_law_letters" 2 ["_law_h", "_law_most"] [] sLetters) : FnOk P w K mg base (L2.CX P w) 3 f fd ["_law_h", "_law_form", "_law_most"] (spD K sOne) := by
  refine fn_d F sc_f_Lone (fun I ds P R h => by obtain ⟨a, b, c, form, m, rfl, _⟩ := h; rfl) fun cdv A outer s H E hr tk po I ds Q R h => ?_
  obtain ⟨a, b, c, form, m, rfl, rfl, hf, m0, m1, q⟩ := h
  have nd := sc_f_Lone.nd
  have hr1 : Room 1 _ := hr.mono (by decide)
  refine s_cons (s_set 3 (ev_def tk DL hr (ea_cons ((pv_v 0).ev (ea_cons ((pv_v 2).ev (ea_nil ⟨a, b, c, m, rfl, rfl, m0, by omega, fun z hz hza => ?_⟩)))))))
  refine s_cons (s_set 4 (ev_pick tk DN hr1 c (pv_lst (va_cons pv_str (va_cons pv_str (va_cons pv_str (va_cons pv_str (va_cons pv_str (va_cons pv_str va_nil))))))) (pv_v 0) (pv_int.ev ⟨_, rfl, rfl, by decide, by decide, by decide⟩) rfl fun dl hl0 => ?_))
  obtain ⟨l, rfl, hl⟩ : ∃ l, dl = .str l ∧ l ∈ leads := by
    simp only [List.mem_cons, List.not_mem_nil, or_false] at hl0
    rcases hl0 with rfl | rfl | rfl | rfl | rfl | rfl <;> exact ⟨_, rfl, by decide +kernel⟩
  refine s_cons (s_set 5 (ev_pick tk DN hr1 c (pv_lst (va_cons pv_str (va_cons pv_str (va_cons pv_str (va_cons pv_str (va_cons pv_str va_nil)))))) (pv_v 0) (pv_int.ev ⟨_, rfl, rfl, by decide, by decide, by decide⟩) rfl fun de he0 => ?_))
  obtain ⟨e, rfl, he⟩ : ∃ e, de = .str e ∧ e ∈ tails := by
    simp only [List.mem_cons, List.not_mem_nil, or_false] at he0
    rcases he0 with rfl | rfl | rfl | rfl | rfl <;> exact ⟨_, rfl, by decide +kernel⟩
  have hzs : ∀ c ∈ z.cps.toList, c ∈ SIGNS.cps.toList := fun c hc => alph_signs c (hza c hc)
  refine s_cons (s_ifP (pt_cmp op_eq (pv_v 1) pv_str (eqV_str form "line")) (fun e1 => ?_) fun e1 => s_nil ?_)
  · refine s_one (s_retP (pv_tup (va_cons pv_str (va_cons (pv_v 3) (va_cons pv_str (va_cons pv_str va_nil))))) (q _ _ _ _ ⟨⟨by decide +kernel, by decide +kernel, by decide +kernel, fun h => absurd h (by decide +kernel), fun h => absurd h (by decide +kernel), fun h => absurd h (by decide +kernel), hzs⟩, ?_, fun _ => ⟨rfl, rfl⟩, z, hz, hza, ?_⟩))
    · rw [if_pos (of_decide_eq_true e1)]
    · rw [if_neg (by decide +kernel), if_neg (by decide +kernel)]
  have n1 : form ≠ "line" := of_decide_eq_false e1
  refine s_cons (s_ifP (pt_cmp op_eq (pv_v 1) pv_str (eqV_str form "ask")) (fun e2 => ?_) fun e2 => s_nil ?_)
  · have h2 : form = "ask" := of_decide_eq_true e2
    refine s_one (s_retP (pv_tup (va_cons pv_str (va_cons (pv_op op_addT (pv_v 3) pv_str (p2_addT ?_)) (va_cons (pv_v 4) (va_cons pv_str va_nil))))) (q _ _ _ _ ⟨⟨by decide +kernel, hl, by decide +kernel, fun h => absurd h (by decide +kernel), fun _ => rfl, fun _ => ?_, app_signs hza one_q.1⟩, ?_, fun h => absurd h n1, z, hz, hza, ?_⟩))
    · show z.length + 1 ≤ _; omega
    · rw [app_len]; show 0 < z.length + 1; omega
    · rw [if_neg n1, h2]
    · rw [if_pos rfl]
  have n2 : form ≠ "ask" := of_decide_eq_false e2
  refine s_cons (s_ifP (pt_cmp op_eq (pv_v 1) pv_str (eqV_str form "reply")) (fun e3 => ?_) fun e3 => s_nil ?_)
  · have h3 : form = "reply" := of_decide_eq_true e3
    refine s_one (s_retP (pv_tup (va_cons pv_str (va_cons (pv_op op_addT (pv_v 3) pv_str (p2_addT ?_)) (va_cons pv_str (va_cons (pv_v 5) va_nil))))) (q _ _ _ _ ⟨⟨by decide +kernel, by decide +kernel, he, fun _ => rfl, fun h => absurd h (by decide +kernel), fun _ => ?_, app_signs hza one_q.2⟩, ?_, fun h => absurd h n1, z, hz, hza, ?_⟩))
    · show z.length + 1 ≤ _; omega
    · rw [app_len]; show 0 < z.length + 1; omega
    · rw [if_neg n1, h3]
    · rw [if_neg (by decide +kernel), if_pos rfl]
  have n3 : form ≠ "reply" := of_decide_eq_false e3
  have hk : form ∈ kinds := by
    simp only [List.mem_cons, List.not_mem_nil, or_false] at hf ⊢
    rcases hf with h | h | h | h | h
    · exact .inl h
    · exact absurd h n2
    · exact absurd h n3
    · exact .inr (.inr (.inr h))
    · exact absurd h n1
  refine s_one (s_retP (pv_tup (va_cons (pv_v 1) (va_cons (pv_v 3) (va_cons (pv_v 4) (va_cons (pv_v 5) va_nil))))) (q _ _ _ _ ⟨⟨hk, hl, he, fun h => absurd h n3, fun h => absurd h n2, fun h => absurd h (fun h => h.elim n2 n3), hzs⟩, ?_, fun h => absurd h n1, z, hz, hza, ?_⟩))
  · rw [if_neg n1]
  · rw [if_neg n2, if_neg n3]
end
end LK
set_option Elab.async false
set_option linter.all false
set_option maxRecDepth 100000
set_option maxHeartbeats 1000000
namespace LK
open PySem PySem.Spec PyProof.Rows L2 DL
abbrev w4 (k t l e : Str) : D := .tup [.str k, .str t, .str l, .str e]
theorem GoodW.x {k t l e : Str} (g : GoodW k t l e) : GoodW k (t ++ "x") l e := ⟨g.gk, g.gl, g.ge, g.gr, g.ga, fun _ => by rw [app_len]; show 0 < t.length + 1; omega, fun c hc => by
  rw [str_app] at hc
  have k : ∀ c ∈ (Str.ofString "x").cps.toList, c ∈ SIGNS.cps.toList := by decide +kernel
  exact (List.mem_append.mp hc).elim (g.gs c) (k c)⟩
def alt (a b : Str) (x y : Str) : Str := if x = y then b else a
theorem alt_ix {a b x y : Str} : atI [D.str a, D.str b] (if decide (x = y) = true then 1 else 0) = some (.str (alt a b x y)) := by
  unfold alt
  by_cases h : x = y
  · rw [if_pos (decide_eq_true h), if_pos h]; rfl
  · rw [if_neg (by rw [decide_eq_false h]; simp), if_neg h]; rfl
theorem alt_in {a b x y : Str} {xs : List Str} (ha : a ∈ xs) (hb : b ∈ xs) : alt a b x y ∈ xs := by
  unfold alt; split <;> assumption
theorem say_show {k : Str} (h : k ∈ (["say", "show"] : List Str)) : k ≠ "reply" ∧ k ≠ "ask" := by
  simp only [List.mem_cons, List.not_mem_nil, or_false] at h
  rcases h with rfl | rfl <;> exact ⟨by decide +kernel, by decide +kernel⟩
theorem wEq_refl {k t l e : Str} : wEq k t l e k t l e = true := by unfold wEq; simp
theorem wEq_comm {k t l e k' t' l' e' : Str} : wEq k' t' l' e' k t l e = wEq k t l e k' t' l' e' := by
  unfold wEq
  rw [show decide (k' = k) = decide (k = k') from decide_eq_decide.mpr ⟨Eq.symm, Eq.symm⟩, show decide (t' = t) = decide (t = t') from decide_eq_decide.mpr ⟨Eq.symm, Eq.symm⟩, show decide (l' = l) = decide (l = l') from decide_eq_decide.mpr ⟨Eq.symm, Eq.symm⟩, show decide (e' = e) = decide (e = e') from decide_eq_decide.mpr ⟨Eq.symm, Eq.symm⟩]
section
variable {K : PySem.W.Frag} {I : Iv K}
theorem neV_bl (a b : Bool) : P2 K I rNe (.bl a) (.bl b) (.bl (!decide (a = b))) := p2_ne rfl rfl rfl (by simp)
end
section
variable {P : Program} {w : World} {K : PySem.W.Frag} {mg : Str → Option Value} {base : Heap} {f : Addr} {fd : FuncData}
theorem ok_law (F : FnP K "law" "law" f_law f fd) (Z : WP P w K mg base) (DM : Def P w K mg base "_law_mix" 1 ["_law_script", "_law_seed"] [] (sMix 14)) (DN : Def P w K mg base "_law_next" 1 ["_law_h", "_law_bound"] [] sNext) (DO : Def P w K mg base "_law_one" 3 ["_law_h", "_law_form", "_law_most"] [] sOne) :
    FnOk P w K mg base (L2.CX P w) 5 f fd ["_law_script"] (spD K sLaw) := by
  refine fn_d F sc_f_law (fun I ds P R h => by obtain ⟨ns, rfl, _⟩ := h; rfl) fun cdv A outer s H E hr tk po I ds Q R h => ?_
  obtain ⟨ns, rfl, hl, q⟩ := h
  have T := Z.T
  have nd := sc_f_law.nd
  have hr1 : Room 1 _ := hr.mono (by decide)
  have hr2 : Room 2 _ := hr.mono (by decide)
  have hr3 : Room 3 _ := hr.mono (by decide)
  refine s_cons (s_set 1 (ev_def tk DM hr1 (ea_cons ((pv_v 0).ev (ea_cons (pv_int.ev (ea_nil ⟨ns, 2, rfl, hl, fun a b => ?_⟩)))))))
  refine SX.eq (I' := (Rc.r I .here).fill (iDr K a b)) rfl ?_
  generalize (Rc.r I .here) = c
  refine s_cons (s_set 2 (ev_pick tk DN hr1 c (pv_lst (va_cons pv_str (va_cons pv_str (va_cons pv_str (va_cons pv_str (va_cons pv_str va_nil)))))) (pv_v 1) (pv_int.ev ⟨_, rfl, rfl, by decide, by decide, by decide⟩) rfl fun df hf0 => ?_))
  obtain ⟨form, rfl, hf⟩ : ∃ z, df = .str z ∧ z ∈ forms5 := by
    simp only [List.mem_cons, List.not_mem_nil, or_false] at hf0
    rcases hf0 with rfl | rfl | rfl | rfl | rfl <;> exact ⟨_, rfl, by decide +kernel⟩
  refine s_cons (s_set 3 (ev_def tk DO hr3 (ea_cons ((pv_v 1).ev (ea_cons ((pv_v 2).ev (ea_cons (pv_int.ev (ea_nil ⟨a, b, c, form, 40, rfl, rfl, hf, by decide, by decide, fun k t l e one => ?_⟩)))))))))
  have g := one.g
  have ht : t.length ≤ 41 := by
    obtain ⟨z, hz, _, et⟩ := one.z
    rw [et]
    split
    · rw [app_len]; show z.length + 1 ≤ 41; omega
    · split
      · rw [app_len]; show z.length + 1 ≤ 41; omega
      · omega
  clear one
  refine s_cons (s_setP 4 (pv_v 3) ?_)
  refine s_cons (s_set 5 (ev_nextP tk DN hr1 c (pv_v 1) pv_int rfl (by decide) fun turn t0 t1 => ?_))
  -- the other one
  refine s_consF (fun x : Str × Str × Str × Str => GoodW x.1 x.2.1 x.2.2.1 x.2.2.2 ∧ x.2.1.length ≤ 100) (fun x => [some (.lsf (ns.map D.int)), some (.adr a), some (.str form), some (w4 k t l e), some (w4 x.1 x.2.1 x.2.2.1 x.2.2.2), some (.int turn), none, none, none]) ?_ ?_ (k, t, l, e) ⟨g, by show t.length ≤ 100; omega⟩
  · rintro ⟨k2, t2, l2, e2⟩ ⟨g2, z2⟩
    refine s_ifP (pt_cmp op_eq (pv_v 5) pv_int (eqV_int turn 0)) (fun _ => ?_) (fun _ => ?_)
    · refine s_one (s_set 4 (ev_def tk DO hr3 (ea_cons ((pv_v 1).ev (ea_cons ((pv_v 2).ev (ea_cons (pv_int.ev (ea_nil ⟨a, b, c, form, 40, rfl, rfl, hf, by decide, by decide, fun k3 t3 l3 e3 one => ?_⟩)))))))))
      refine ⟨rfl, (k3, t3, l3, e3), ⟨one.g, ?_⟩, rfl⟩
      show t3.length ≤ 100
      obtain ⟨z, hz, _, et⟩ := one.z
      rw [et]
      split
      · rw [app_len]; show z.length + 1 ≤ 100; omega
      · split
        · rw [app_len]; show z.length + 1 ≤ 100; omega
        · omega
    · refine s_nil ?_
      exact ⟨rfl, (k2, t2, l2, e2), ⟨g2, z2⟩, rfl⟩
  refine s_consF (fun x : Str × Str × Str × Str => GoodW x.1 x.2.1 x.2.2.1 x.2.2.2 ∧ x.2.1.length ≤ 100) (fun x => [some (.lsf (ns.map D.int)), some (.adr a), some (.str form), some (w4 k t l e), some (w4 x.1 x.2.1 x.2.2.1 x.2.2.2), some (.int turn), none, none, none]) ?_ ?_
  · rintro ⟨k2, t2, l2, e2⟩ ⟨g2, z2⟩
    refine s_ifP (pt_cmp op_eq (pv_v 5) pv_int (eqV_int turn 1)) (fun _ => ?_) (fun _ => ?_)
    · refine s_one (s_setP 4 (pv_tup (va_cons (pv_ix ix_tup (pv_v (d := w4 k t l e) 3) pv_int (p2_ixT rfl)) (va_cons (pv_op op_addT (pv_ix ix_tup (pv_v (d := w4 k t l e) 3) pv_int (p2_ixT rfl)) pv_str (p2_addT ?_)) (va_cons (pv_ix ix_tup (pv_v (d := w4 k t l e) 3) pv_int (p2_ixT rfl)) (va_cons (pv_ix ix_tup (pv_v (d := w4 k t l e) 3) pv_int (p2_ixT rfl)) va_nil))))) ?_)
      · show t.length + 1 ≤ _; omega
      · refine ⟨rfl, (k, t ++ "x", l, e), ⟨g.x, ?_⟩, rfl⟩
        show (t ++ "x").length ≤ 100
        rw [app_len]; show t.length + 1 ≤ 100; omega
    · refine s_nil ?_
      exact ⟨rfl, (k2, t2, l2, e2), ⟨g2, z2⟩, rfl⟩
  refine s_consF (fun x : Str × Str × Str × Str => GoodW x.1 x.2.1 x.2.2.1 x.2.2.2 ∧ x.2.1.length ≤ 100) (fun x => [some (.lsf (ns.map D.int)), some (.adr a), some (.str form), some (w4 k t l e), some (w4 x.1 x.2.1 x.2.2.1 x.2.2.2), some (.int turn), none, none, none]) ?_ ?_
  · rintro ⟨k2, t2, l2, e2⟩ ⟨g2, z2⟩
    refine s_ifP (ptw (ww_and (pt_cmp op_eq (pv_v 5) pv_int (eqV_int turn 2)) fun _ => ww_and1 (pt_cmp op_in_seq (pv_ix ix_tup (pv_v (d := w4 k t l e) 3) pv_int (p2_ixT rfl)) (pv_tup (va_cons pv_str (va_cons pv_str va_nil))) (p2_inStr (ws := ["say", "show"]))))) (fun hb => ?_) (fun _ => ?_)
    · have hk := say_show (of_decide_eq_true (Bool.and_eq_true_iff.mp hb).2)
      refine s_one (s_setP (d := w4 k t (alt "wipe" "fresh" l "wipe") e) 4 (pv_tup (va_cons (pv_ix ix_tup (pv_v (d := w4 k t l e) 3) pv_int (p2_ixT rfl)) (va_cons (pv_ix ix_tup (pv_v (d := w4 k t l e) 3) pv_int (p2_ixT rfl)) (va_cons (pv_ix ix_list (pv_lst (va_cons pv_str (va_cons pv_str va_nil))) (pv_ct call_int1 T.int (va_cons (pv_cmp op_eq (pv_ix ix_tup (pv_v (d := w4 k t l e) 3) pv_int (p2_ixT rfl)) pv_str (eqV_str l "wipe")) va_nil) pn_intB) (p2_ixL alt_ix)) (va_cons (pv_ix ix_tup (pv_v (d := w4 k t l e) 3) pv_int (p2_ixT rfl)) va_nil))))) ?_)
      exact ⟨rfl, (k, t, alt "wipe" "fresh" l "wipe", e), ⟨⟨g.gk, alt_in (by decide +kernel) (by decide +kernel), g.ge, fun h => absurd h hk.1, g.ga, g.gn, g.gs⟩, by show t.length ≤ 100; omega⟩, rfl⟩
    · refine s_nil ?_
      exact ⟨rfl, (k2, t2, l2, e2), ⟨g2, z2⟩, rfl⟩
  refine s_consF (fun x : Str × Str × Str × Str => GoodW x.1 x.2.1 x.2.2.1 x.2.2.2 ∧ x.2.1.length ≤ 100) (fun x => [some (.lsf (ns.map D.int)), some (.adr a), some (.str form), some (w4 k t l e), some (w4 x.1 x.2.1 x.2.2.1 x.2.2.2), some (.int turn), none, none, none]) ?_ ?_
  · rintro ⟨k2, t2, l2, e2⟩ ⟨g2, z2⟩
    refine s_ifP (ptw (ww_and (pt_cmp op_eq (pv_v 5) pv_int (eqV_int turn 3)) fun _ => ww_and1 (pt_cmp op_ne (pv_ix ix_tup (pv_v (d := w4 k t l e) 3) pv_int (p2_ixT rfl)) pv_str (neV_str k "ask")))) (fun hb => ?_) (fun _ => ?_)
    · have hk : k ≠ "ask" := by simpa using (Bool.and_eq_true_iff.mp hb).2
      refine s_one (s_setP (d := w4 k t l (alt "erase" "newline" e "erase")) 4 (pv_tup (va_cons (pv_ix ix_tup (pv_v (d := w4 k t l e) 3) pv_int (p2_ixT rfl)) (va_cons (pv_ix ix_tup (pv_v (d := w4 k t l e) 3) pv_int (p2_ixT rfl)) (va_cons (pv_ix ix_tup (pv_v (d := w4 k t l e) 3) pv_int (p2_ixT rfl)) (va_cons (pv_ix ix_list (pv_lst (va_cons pv_str (va_cons pv_str va_nil))) (pv_ct call_int1 T.int (va_cons (pv_cmp op_eq (pv_ix ix_tup (pv_v (d := w4 k t l e) 3) pv_int (p2_ixT rfl)) pv_str (eqV_str e "erase")) va_nil) pn_intB) (p2_ixL alt_ix)) va_nil))))) ?_)
      exact ⟨rfl, (k, t, l, alt "erase" "newline" e "erase"), ⟨⟨g.gk, g.gl, alt_in (by decide +kernel) (by decide +kernel), g.gr, fun h => absurd h hk, g.gn, g.gs⟩, by show t.length ≤ 100; omega⟩, rfl⟩
    · refine s_nil ?_
      exact ⟨rfl, (k2, t2, l2, e2), ⟨g2, z2⟩, rfl⟩
  refine s_consF (fun x : Str × Str × Str × Str => GoodW x.1 x.2.1 x.2.2.1 x.2.2.2 ∧ x.2.1.length ≤ 100) (fun x => [some (.lsf (ns.map D.int)), some (.adr a), some (.str form), some (w4 k t l e), some (w4 x.1 x.2.1 x.2.2.1 x.2.2.2), some (.int turn), none, none, none]) ?_ ?_
  · rintro ⟨k2, t2, l2, e2⟩ ⟨g2, z2⟩
    refine s_ifP (ptw (ww_and (pt_cmp op_eq (pv_v 5) pv_int (eqV_int turn 4)) fun _ => ww_and1 (pt_cmp op_in_seq (pv_ix ix_tup (pv_v (d := w4 k t l e) 3) pv_int (p2_ixT rfl)) (pv_tup (va_cons pv_str (va_cons pv_str va_nil))) (p2_inStr (ws := ["say", "show"]))))) (fun hb => ?_) (fun _ => ?_)
    · refine s_one (s_setP (d := w4 (alt "say" "show" k "say") t l e) 4 (pv_tup (va_cons (pv_ix ix_list (pv_lst (va_cons pv_str (va_cons pv_str va_nil))) (pv_ct call_int1 T.int (va_cons (pv_cmp op_eq (pv_ix ix_tup (pv_v (d := w4 k t l e) 3) pv_int (p2_ixT rfl)) pv_str (eqV_str k "say")) va_nil) pn_intB) (p2_ixL alt_ix)) (va_cons (pv_ix ix_tup (pv_v (d := w4 k t l e) 3) pv_int (p2_ixT rfl)) (va_cons (pv_ix ix_tup (pv_v (d := w4 k t l e) 3) pv_int (p2_ixT rfl)) (va_cons (pv_ix ix_tup (pv_v (d := w4 k t l e) 3) pv_int (p2_ixT rfl)) va_nil))))) ?_)
      have hk := say_show (k := alt "say" "show" k "say") (alt_in (by decide +kernel) (by decide +kernel))
      exact ⟨rfl, (alt "say" "show" k "say", t, l, e), ⟨⟨alt_in (by decide +kernel) (by decide +kernel), g.gl, g.ge, fun h => absurd h hk.1, fun h => absurd h hk.2, fun h => absurd h (fun h => h.elim hk.2 hk.1), g.gs⟩, by show t.length ≤ 100; omega⟩, rfl⟩
    · refine s_nil ?_
      exact ⟨rfl, (k2, t2, l2, e2), ⟨g2, z2⟩, rfl⟩
  rintro ⟨k2, t2, l2, e2⟩ ⟨g2, z2⟩
  have z2 : t2.length ≤ 100 := z2
  -- too long
  refine s_cons (s_ifP (ptw (ww_or (pt_cmp op_gt (pv_cb call_len_str T.len (va_cons (pv_ix ix_tup (pv_v (d := w4 k t l e) 3) pv_int (p2_ixT rfl)) va_nil) (pn_lenS (by omega))) pv_int p2_gt) fun _ => ww_or1 (pt_cmp op_gt (pv_cb call_len_str T.len (va_cons (pv_ix ix_tup (pv_v (d := w4 k2 t2 l2 e2) 4) pv_int (p2_ixT rfl)) va_nil) (pn_lenS (by omega))) pv_int p2_gt))) (fun _ => ?_) fun e1 => s_nil ?_)
  · exact s_one (s_retP pv_bl (q _))
  obtain ⟨e3, e4⟩ := Bool.or_eq_false_iff.mp e1
  have n1 : t.length ≤ 40 := by have := of_decide_eq_false e3; omega
  have n2 : t2.length ≤ 40 := by have := of_decide_eq_false e4; omega
  have o1 := g.okEq
  have o2 := g2.okEq
  -- the two writes
  refine s_cons (s_setP (d := wD K k t l e) 6 (pv_write Z hr (pv_ix ix_tup (pv_v (d := w4 k t l e) 3) pv_int (p2_ixT rfl)) (pv_ix ix_tup (pv_v (d := w4 k t l e) 3) pv_int (p2_ixT rfl)) (pv_ix ix_tup (pv_v (d := w4 k t l e) 3) pv_int (p2_ixT rfl)) (pv_ix ix_tup (pv_v (d := w4 k t l e) 3) pv_int (p2_ixT rfl)) g n1) ?_)
  refine s_cons (s_setP (d := wD K k2 t2 l2 e2) 7 (pv_writeTL Z hr (pv_ix ix_tup (pv_v (d := w4 k2 t2 l2 e2) 4) pv_int (p2_ixT rfl)) (pv_ix ix_tup (pv_v (d := w4 k2 t2 l2 e2) 4) pv_int (p2_ixT rfl)) (pv_ix ix_tup (pv_v (d := w4 k2 t2 l2 e2) 4) pv_int (p2_ixT rfl)) (pv_ix ix_tup (pv_v (d := w4 k2 t2 l2 e2) 4) pv_int (p2_ixT rfl)) g2 n2) ?_)
  -- its parts
  refine s_cons (s_ifF (ptw (ww_orF (pt_cmp (op_neD hr.units) (pv_tup (va_cons (pv_wkind Z hr2 (pv_v (d := wD K k t l e) 6)) (va_cons (pv_wtext Z hr2 (pv_v (d := wD K k t l e) 6)) (va_cons (pv_wlead Z hr2 (pv_v (d := wD K k t l e) 6)) (va_cons (pv_wtail Z hr2 (pv_v (d := wD K k t l e) 6)) va_nil))))) (pv_v (d := w4 k t l e) 3) ((p2_neD o1 o1).is ?_)) (ww_or1 (pt_cmp op_ne (pv_wlen Z hr2 (pv_v (d := wD K k t l e) 6) (by omega)) (pv_cb call_len_str T.len (va_cons (pv_ix ix_tup (pv_v (d := w4 k t l e) 3) pv_int (p2_ixT rfl)) va_nil) (pn_lenS (by omega))) ((neV_int _ _).is ?_))))) (s_nil ?_))
  · rw [eqv_tup4, wEq_refl]; rfl
  · simp
  refine s_cons (s_ifF (pt_cmp op_ne (pv_wstays Z hr2 (pv_v (d := wD K k t l e) 6)) (pv_cmp op_ne (pv_ix ix_tup (pv_v (d := w4 k t l e) 3) pv_int (p2_ixT rfl)) pv_str (neV_str k "show")) ((neV_bl _ _).is ?_)) (s_nil ?_))
  · simp
  refine s_cons (s_ifF (ptn (k := true) (pt_cmp (SlX.op_own (fun _ _ => rfl) Z.E.eF Z.E.eI Z.eq hr1 takesPF) (pv_v (d := wD K k t l e) 6) (pv_write Z hr (pv_ix ix_tup (pv_v (d := w4 k t l e) 3) pv_int (p2_ixT rfl)) (pv_ix ix_tup (pv_v (d := w4 k t l e) 3) pv_int (p2_ixT rfl)) (pv_ix ix_tup (pv_v (d := w4 k t l e) 3) pv_int (p2_ixT rfl)) (pv_ix ix_tup (pv_v (d := w4 k t l e) 3) pv_int (p2_ixT rfl)) g n1) (p2_own Z.E.nW fun P p => ⟨k, t, l, e, .inl ⟨k, t, l, e, rfl, by rw [wEq_refl]; exact p⟩⟩))) (s_nil ?_))
  refine s_cons (s_ifF (ptw (ww_orF (pt_cmp op_ne (pv_cmp (SlX.op_own (fun _ _ => rfl) Z.E.eF Z.E.eI Z.eq hr1 takesPF) (pv_v (d := wD K k t l e) 6) (pv_v (d := wD K k2 t2 l2 e2) 7) (p2_own (z := .bl (wEq k t l e k2 t2 l2 e2)) Z.E.nW fun P p => ⟨k, t, l, e, .inl ⟨k2, t2, l2, e2, rfl, p⟩⟩)) (pv_cmp (op_eqD hr.units) (pv_v (d := w4 k t l e) 3) (pv_v (d := w4 k2 t2 l2 e2) 4) (p2_eqD o1 o2)) ((neV_bl _ _).is ?_))
    (ww_or1 (pt_cmp op_ne (pv_cmp (SlX.op_own (fun _ _ => rfl) Z.E.eF Z.E.eI Z.eq hr1 takesPF) (pv_v (d := wD K k2 t2 l2 e2) 7) (pv_v (d := wD K k t l e) 6) (p2_own (z := .bl (wEq k2 t2 l2 e2 k t l e)) Z.E.nW fun P p => ⟨k2, t2, l2, e2, .inl ⟨k, t, l, e, rfl, p⟩⟩)) (pv_cmp (op_eqD hr.units) (pv_v (d := w4 k t l e) 3) (pv_v (d := w4 k2 t2 l2 e2) 4) (p2_eqD o1 o2)) ((neV_bl _ _).is ?_))))) (s_nil ?_))
  · rw [eqv_tup4]; simp
  · rw [eqv_tup4, wEq_comm]; simp
  refine s_cons (s_setP (d := wD K k t "" "") 8 (pv_write0 Z hr (pv_ix ix_tup (pv_v (d := w4 k t l e) 3) pv_int (p2_ixT rfl)) (pv_ix ix_tup (pv_v (d := w4 k t l e) 3) pv_int (p2_ixT rfl)) g n1) ?_)
  refine s_one (s_retP (pv_andT (pv_not (k := false) (pv_cmp (op_ownT (fun _ _ => rfl) Z.E.eF Z.E.eI Z.eq hr1 takesPF) (pv_v (d := wD K k t l e) 6) (pv_v (d := w4 k t l e) 3) (p2_ownT (z := .bl false) (t := "tuple") rfl (Z.E.nT _ (by decide +kernel)) fun P p => ⟨k, t, l, e, .inr ⟨_, "tuple", rfl, rfl, p⟩⟩)))
    (pv_andT (pv_not (k := false) (pv_cmp (op_ownT (fun _ _ => rfl) Z.E.eF Z.E.eI Z.eq hr1 takesPF) (pv_v (d := wD K k t l e) 6) (pv_ix ix_tup (pv_v (d := w4 k t l e) 3) pv_int (p2_ixT (d := .str t) rfl)) (p2_ownT (z := .bl false) (t := "str") rfl (Z.E.nT _ (by decide +kernel)) fun P p => ⟨k, t, l, e, .inr ⟨_, "str", rfl, rfl, p⟩⟩)))
      (pv_one (pv_cmp (op_eqD hr.units) (pv_tup (va_cons (pv_wlead Z hr2 (pv_v (d := wD K k t "" "") 8)) (va_cons (pv_wtail Z hr2 (pv_v (d := wD K k t "" "") 8)) va_nil))) (pv_tup (va_cons pv_str (va_cons pv_str va_nil))) (p2_eqD (by decide +kernel) (by decide +kernel)))))) (q _))
end
end LK
set_option Elab.async false
set_option linter.all false
set_option maxRecDepth 100000
set_option maxHeartbeats 0
namespace LK
open PySem PySem.Spec PyProof.Rows L2 DL
abbrev Rr : PySem.W.OpenRow := PySem.W.OpenLaw.row PySem.Challenge.rw_linesharing_k02_writes_kept
def fn : List He.DefD := dfW ++ [dF "_law_mix" f_Lmix, dF "_law_next" f_Lnext, dF "_law_letters" f_Lletters, dF "_law_one" f_Lone, dF "law" f_law]
def gs : List He.DefD := dgW
def ex (K : PySem.W.Frag) : Bool := TxB K && (TxEB K && glB K ["_law_mix", "_law_next", "_law_letters", "_law_one", "law"])
abbrev hk : PySem.W.Hook := hookP 6 fn gs ex
def ob (s : PySem.W.SharedT) : AlP := obsP 6 fn gs ex (HandSHeadRun.getT s)
theorem ob_eq (s : PySem.W.SharedT) : ob s = hk.obs s.abs := obsP_eq (HandSHeadRun.getT_eq s)
def loose0 : List Str := ["LineError", "InvalidWrite", "LETTERS", "FIGURES", "SIGNS", "SAY", "ASK", "REPLY", "SHOW", "KINDS", "LEADS", "TAILS", "MOST_SIGNS", "is_text", "is_one_of", "Write", "_law_mix", "_law_next", "_law_letters", "_law_one"]
def loose : List Str := loose0
theorem run (w : World) : HandSHeadRun.RunEq Rr (PySem.W.view Rr.prog [23]) hk ob 4000 loose w := by
  intro os
  kernel_rfl
theorem facts {P : Program} {w : World} {K : PySem.W.Frag} {h : Heap} {mg : Str → Option Value} {f : Addr} (X : K.In h) (G : h.Ns mainGlobals mg) (hfa : mg ("law" : Str) = some (.ref f)) (c : SaysP fn gs ex w h K) :
    ∃ fd : FuncData, (∀ (s : Shared) (v : Value), BindsTo s fd ⟨[v], []⟩ [("_law_script", v)]) ∧ ∀ base : Heap, K.In base → base.Ns mainGlobals mg → FnOk P w K mg base (L2.CX P w) 5 f fd ["_law_script"] (spD K sLaw) := by
  have m := c.more
  obtain ⟨m1, m⟩ := He.ba m
  obtain ⟨m2, m3⟩ := He.ba m
  have T := TxB_ok X G m1
  have gl : ∀ x, ([("_law_mix" : Str), "_law_next", "_law_letters", "_law_one", "law"]).contains x = true → mg x = some (.ref (He.ga K x)) := fun x hx => glB_ok X G m3 hx
  obtain ⟨fd, F⟩ := c.def_ 10 (d := dF "law" f_law) rfl
  have e := hfa.symm.trans (gl "law" (by decide +kernel))
  cases e
  have b := FunD.bindsA (ps := ["_law_script"]) F fun _ _ _ _ _ _ us hl => match us, hl with | [_], _ => rfl
  refine ⟨fd, fun s v => b s [v] rfl, fun base _ _ => ?_⟩
  have Z : WP P w K mg base := wp_of T (TxEB_ok m2) (fun d hd => c.has (List.mem_append_left _ hd)) (fun d hd => c.hasG hd)
  obtain ⟨_, F4⟩ := c.def_ 6 (d := dF "_law_mix" f_Lmix) rfl
  obtain ⟨_, F5⟩ := c.def_ 7 (d := dF "_law_next" f_Lnext) rfl
  obtain ⟨_, F6⟩ := c.def_ 8 (d := dF "_law_letters" f_Lletters) rfl
  obtain ⟨_, F7⟩ := c.def_ 9 (d := dF "_law_one" f_Lone) rfl
  have D4 : Def P w K mg base "_law_mix" 1 ["_law_script", "_law_seed"] [] (sMix 14) := Def.of (gl _ (by decide +kernel)) F4 (ok_mix F4 T) fun _ _ _ _ _ _ us hl => match us, hl with | [_, _], _ => rfl
  have D5 : Def P w K mg base "_law_next" 1 ["_law_h", "_law_bound"] [] sNext := Def.of (gl _ (by decide +kernel)) F5 (ok_next F5 T) fun _ _ _ _ _ _ us hl => match us, hl with | [_, _], _ => rfl
  have D6 : Def P w K mg base "_law_letters" 2 ["_law_h", "_law_most"] [] sLetters := Def.of (gl _ (by decide +kernel)) F6 (ok_letters F6 T D5) fun _ _ _ _ _ _ us hl => match us, hl with | [_, _], _ => rfl
  have D7 : Def P w K mg base "_law_one" 3 ["_law_h", "_law_form", "_law_most"] [] sOne := Def.of (gl _ (by decide +kernel)) F7 (ok_one F7 D5 D6) fun _ _ _ _ _ _ us hl => match us, hl with | [_, _, _], _ => rfl
  exact ok_law F Z D4 D5 D7
end LK
open PySem PySem.W PySem.Calls PyProof.Rows
theorem PySem.Challenge.cw_linesharing_k02_writes_kept_holds : PySem.Challenge.rw_linesharing_k02_writes_kept.Holds := by
  w_on; o_law
  refine HandSHeadRun.head_any (r := OpenLaw.row PySem.Challenge.rw_linesharing_k02_writes_kept) (q := view (OpenLaw.row PySem.Challenge.rw_linesharing_k02_writes_kept).prog [23]) (H := LK.hk) (ob := LK.ob) (M := 4000) (loose := LK.loose) (d := HandSHeadRun.topDef (OpenLaw.row PySem.Challenge.rw_linesharing_k02_writes_kept).prog 23) (kwd := []) LK.ob_eq
    (by kernel_rfl) (fun s => by kernel_rfl) LK.run (by kernel_rfl) (by kernel_rfl) (by kernel_rfl) (by rfl) (by first | assumption | decide +kernel) (by decide +kernel) ⟨rfl, rfl, rfl, rfl, rfl, by decide +kernel⟩ ?hw ?hc
  case hw => w_witness2
  case hc =>
    refine LamX.walk_ofTsE (l := PySem.Challenge.rw_linesharing_k02_writes_kept) (n := 63) (k := 5) (x := "_law_script") (CX := fun w => L2.CX (PySem.Challenge.rw_linesharing_k02_writes_kept).prog w) rfl (by decide) (by kernel_rfl) ⟨rfl, by decide, by decide⟩ ?F ?E
    case F =>
      intro w mg fa h Y G hmg0
      obtain ⟨K, KX, c⟩ := Y
      have hmg : mg ("law" : PySem.Str) = some (.ref fa) := by
        have e : (HandSHeadRun.topDef (OpenLaw.row PySem.Challenge.rw_linesharing_k02_writes_kept).prog 23).name = ("law" : PySem.Str) := by kernel_rfl
        rw [← e]
        exact hmg0
      obtain ⟨fd, hb, hF⟩ := LK.facts (P := (PySem.Challenge.rw_linesharing_k02_writes_kept).prog) (w := w) KX G hmg c
      exact ⟨K, KX, fd, [], _, (fun p hp => nomatch hp), (fun p hp => nomatch hp), (fun p hp => nomatch hp), hb, fun H a ns hl hbits _ hS => DL.sp_law hl hS, fun base h1 h2 _ => hF base h1 h2⟩
    case E =>
      intro w H s e s' z
      exact DL.cx0 z
