import PyProof.Rows.All
import Wide.All
import OpenK.AllK
import Wide.FinOn
import HandS.ForMost
import HandS.ForExc
import HandS.Exc
import HandS.ExcOwn
import HandS.ExcInit
import HandS.ExcField
import HandS.ExcIs
import KE.KExcIs
import HandS.TryOnly
import HandS.IsInst
import HandS.Slots
import HandS.SlotsOwn
import HandS.Defaults
import HandS.MakeKw
import HandS.MakeKwOnly
import HandS.CallSlots
import HandS.Walk
import HandS.Evl
import HandS.HeadWalk
import HandS.HeadHook4
import KE.KStateDown
import HandS.Head0
import HandS.Head1
import HandS.Head2
import HandS.HeadEnd
import HandS.Dict
import HandS.Iter
import HandS.WordsDict
import KE.GoesEnum
import HandS.Deep
import HandS.TupAny
import HandS.DictComp
import HandS.Finally
import HandS.Zip
import HandS.Conv
import KE.KDictList
import HandS.OwnEq
import KE.KEqDict
import KE.KIndexOf
import KE.DataFind
import HandS.TupMul
import HandS.Star
import HandS.More
import PyProof.WalksMore
import PyProof.SumWalkG
import PyProof.FactsAll.tuple_2
import KE.KDictKeyed
import HandS.Flow
import HandS.Nested
import KE.DataCmp
import PyProof.RulesMatch
import HandS.Style
import HandS.TryMany
import PySem.Challenge.RW_linesharing_k16_orders_refused
set_option Elab.async false
set_option linter.all false
set_option maxRecDepth 100000
set_option maxHeartbeats 4000000
namespace DL
open PySem PySem.Spec PyProof.Rows L2

/-! ### data -/
inductive D where
  | non | bl (b : Bool) | int (i : Int) | str (x : Str) | ty (n : String) | adr (a : Addr)
  | tup (ds : List D) | lst (ds : List D) | lsf (ds : List D) | slo (C : Addr) (ds : List D)
  | exc (a C dd : Addr) (ks : List Str) (ds : List D) | dic (ks : List Key) (ds : List D) | tub (ds : List D)

mutual
def Rep (K : PySem.W.Frag) (G : Hp) : D → V → Prop
  | .non, v => v = .non
  | .bl b, v => v = .bl b
  | .int i, v => v = .int i
  | .str x, v => v = .str x
  | .ty n, v => v = .ty n
  | .adr a, v => v = .ref a
  | .tup ds, v => ∃ (a : Addr) (vs : List V), v = .ref a ∧ SqT K G a vs ∧ Reps K G ds vs
  | .lst ds, v => ∃ (a : Addr) (vs : List V), v = .ref a ∧ G a = some (.lst vs) ∧ Reps K G ds vs
  | .lsf ds, v => ∃ (a : Addr) (vs : List V), v = .ref a ∧ SqL K G a vs ∧ Reps K G ds vs
  | .slo C ds, v => ∃ (a dx : Addr) (vs : List V), v = .ref a ∧ SlX.Slt G a C dx (vs.map some) ∧ Reps K G ds vs
  | .exc a _ dd ks ds, v => v = .ref a ∧ ∃ vs : List V, G dd = some (.xd (ks.zip vs)) ∧ Reps K G ds vs
  | .dic ks ds, v => ∃ (a : Addr) (od : Obj) (vs : List V), v = .ref a ∧ G a = some (.frz od (.dK (ks.zip vs))) ∧ ks.length = ds.length ∧ Reps K G ds vs
  | .tub ds, v => ∃ (a : Addr) (od : Obj) (vs : List V), v = .ref a ∧ G a = some (.frz od (.tup vs)) ∧ od.dict = none ∧ Reps K G ds vs
def Reps (K : PySem.W.Frag) (G : Hp) : List D → List V → Prop
  | [], vs => vs = []
  | d :: ds, vs => ∃ (v : V) (r : List V), vs = v :: r ∧ Rep K G d v ∧ Reps K G ds r
end

section
variable {K : PySem.W.Frag} {G G' H H' : Hp}
theorem sqT_mono {a : Addr} {xs : List V} (e : Same G H) (h : SqT K G a xs) : SqT K H a xs := Evl.ex_t e h
theorem sqL_mono {a : Addr} {xs : List V} (e : Same G H) (h : SqL K G a xs) : SqL K H a xs := e.seq h
theorem slt_mono {a C dx : Addr} {vs : List (Option V)} (e : Same G H) (h : SlX.Slt G a C dx vs) : SlX.Slt H a C dx vs := by
  rcases h with ⟨h1, h2⟩ | ⟨h1, h2⟩
  · exact .inl ⟨e _ _ h1, h2⟩
  · exact .inr ⟨e _ _ h1, e _ _ h2⟩
mutual
theorem Rep.mono (e : Same G H) : ∀ {d : D} {v : V}, Rep K G d v → Rep K H d v
  | .non, _, h => h
  | .bl _, _, h => h
  | .int _, _, h => h
  | .str _, _, h => h
  | .ty _, _, h => h
  | .adr _, _, h => h
  | .tup _, _, ⟨a, vs, h1, h2, h3⟩ => ⟨a, vs, h1, sqT_mono e h2, Reps.mono e h3⟩
  | .lst _, _, ⟨a, vs, h1, h2, h3⟩ => ⟨a, vs, h1, e _ _ h2, Reps.mono e h3⟩
  | .lsf _, _, ⟨a, vs, h1, h2, h3⟩ => ⟨a, vs, h1, sqL_mono e h2, Reps.mono e h3⟩
  | .slo _ _, _, ⟨a, dx, vs, h1, h2, h3⟩ => ⟨a, dx, vs, h1, slt_mono e h2, Reps.mono e h3⟩
  | .exc _ _ _ _ _, _, ⟨h1, vs, h2, h3⟩ => ⟨h1, vs, e _ _ h2, Reps.mono e h3⟩
  | .dic _ _, _, ⟨a, od, vs, h1, h2, h4, h3⟩ => ⟨a, od, vs, h1, e _ _ h2, h4, Reps.mono e h3⟩
  | .tub _, _, ⟨a, od, vs, h1, h2, h4, h3⟩ => ⟨a, od, vs, h1, e _ _ h2, h4, Reps.mono e h3⟩
theorem Reps.mono (e : Same G H) : ∀ {ds : List D} {vs : List V}, Reps K G ds vs → Reps K H ds vs
  | [], _, h => h
  | _ :: _, _, ⟨v, r, h1, h2, h3⟩ => ⟨v, r, h1, Rep.mono e h2, Reps.mono e h3⟩
end
theorem Reps.length : ∀ {ds : List D} {vs : List V}, Reps K G ds vs → vs.length = ds.length
  | [], _, h => by
    have h' : _ = [] := h
    subst h'
    rfl
  | _ :: _, _, ⟨v, r, h1, _, h3⟩ => by rw [h1, List.length_cons, List.length_cons, Reps.length h3]
theorem Reps.get : ∀ {ds : List D} {vs : List V} {i : Nat} {d : D}, Reps K G ds vs → ds[i]? = some d → ∃ v, vs[i]? = some v ∧ Rep K G d v
  | [], _, _, _, _, e => by simp at e
  | d :: ds, _, 0, d', ⟨v, r, h1, h2, h3⟩, e => by
    have e2 : d = d' := by simpa using e
    subst e2
    exact ⟨v, by rw [h1]; rfl, h2⟩
  | d :: ds, _, i + 1, d', ⟨v, r, h1, h2, h3⟩, e => by
    obtain ⟨w, e1, e2⟩ := Reps.get (i := i) h3 (by simpa using e)
    exact ⟨w, by rw [h1]; simpa using e1, e2⟩
theorem Reps.nil : Reps K G [] [] := rfl
theorem Reps.cons {d : D} {v : V} {ds : List D} {vs : List V} (h : Rep K G d v) (t : Reps K G ds vs) : Reps K G (d :: ds) (v :: vs) := ⟨v, vs, rfl, h, t⟩
theorem Reps.append : ∀ {ds es : List D} {vs ws : List V}, Reps K G ds vs → Reps K G es ws → Reps K G (ds ++ es) (vs ++ ws)
  | [], _, _, _, h, t => by rw [show _ = [] from h]; exact t
  | d :: ds, es, _, ws, ⟨v, r, h1, h2, h3⟩, t => by rw [h1]; exact ⟨v, r ++ ws, rfl, h2, Reps.append h3 t⟩
theorem Reps.one {d : D} {v : V} (h : Rep K G d v) : Reps K G [d] [v] := .cons h .nil
theorem Reps.set : ∀ {ds : List D} {vs : List V} {i : Nat} {d : D} {v : V}, Reps K G ds vs → Rep K G d v → Reps K G (ds.set i d) (vs.set i v)
  | [], _, _, _, _, h, _ => by rw [show _ = [] from h]; exact rfl
  | _ :: _, _, 0, d, v, ⟨w, r, h1, h2, h3⟩, q => by rw [h1]; exact ⟨v, r, rfl, q, h3⟩
  | _ :: _, _, i + 1, d, v, ⟨w, r, h1, h2, h3⟩, q => by rw [h1]; exact ⟨w, r.set i v, rfl, h2, Reps.set h3 q⟩

/-! ### the slots by data -/
abbrev DEnv := List (Option D)
def EnvR (K : PySem.W.Frag) (G : Hp) (δ : DEnv) (σ : L2.St) : Prop := σ.length = δ.length ∧ ∀ (i : Nat) (d : D), δ[i]? = some (some d) → ∃ v, σ[i]? = some (some v) ∧ Rep K G d v
theorem EnvR.mono {δ : DEnv} {σ : L2.St} (e : Same G H) (h : EnvR K G δ σ) : EnvR K H δ σ := ⟨h.1, fun i d hd => by
  obtain ⟨v, h1, h2⟩ := h.2 i d hd
  exact ⟨v, h1, h2.mono e⟩⟩
theorem EnvR.set {δ : DEnv} {σ : L2.St} {i : Nat} {d : D} {v : V} (h : EnvR K G δ σ) (r : Rep K G d v) : EnvR K G (δ.set i (some d)) (σ.set i (some v)) := by
  refine ⟨by simp [h.1], fun j e he => ?_⟩
  by_cases hj : i = j
  · subst hj
    have hl : i < δ.length := by
      have := (List.getElem?_eq_some_iff.mp he).1
      simpa using this
    rw [List.getElem?_set_self hl] at he
    have e2 : d = e := by simpa using he
    subst e2
    exact ⟨v, List.getElem?_set_self (by rw [h.1]; exact hl), r⟩
  · rw [List.getElem?_set_ne hj] at he
    obtain ⟨w, h1, h2⟩ := h.2 j e he
    exact ⟨w, by rw [List.getElem?_set_ne hj]; exact h1, h2⟩
theorem EnvR.drop {δ : DEnv} {σ : L2.St} {i : Nat} (h : EnvR K G δ σ) (o : Option V) : EnvR K G (δ.set i none) (σ.set i o) := by
  refine ⟨by simp [h.1], fun j e he => ?_⟩
  by_cases hj : i = j
  · subst hj
    rw [List.getElem?_set] at he
    simp at he
  · rw [List.getElem?_set_ne hj] at he
    obtain ⟨w, h1, h2⟩ := h.2 j e he
    exact ⟨w, by rw [List.getElem?_set_ne hj]; exact h1, h2⟩
def dstart (N : List Str) (ds : List D) : DEnv := ds.map some ++ List.replicate (N.length - ds.length) none
theorem EnvR.start {N : List Str} {ds : List D} {vs : List V} (r : Reps K G ds vs) : EnvR K G (dstart N ds) (L2.start N vs) := by
  have hl := r.length
  refine ⟨by unfold L2.start dstart; simp [hl], fun i d hd => ?_⟩
  unfold dstart at hd
  by_cases hi : i < ds.length
  · rw [List.getElem?_append_left (by simpa using hi), List.getElem?_map] at hd
    have hd2 : ds[i]? = some d := by
      cases e : ds[i]? with
      | none => rw [e] at hd; cases hd
      | some x => rw [e] at hd; simpa using hd
    obtain ⟨v, h1, h2⟩ := r.get hd2
    refine ⟨v, ?_, h2⟩
    unfold L2.start
    rw [List.getElem?_append_left (by rw [List.length_map, hl]; exact hi), List.getElem?_map, h1]
    rfl
  · rw [List.getElem?_append_right (by simpa using hi), List.getElem?_replicate] at hd
    split at hd <;> cases hd
end

/-! ### what is owned: F its addresses -/
structure Iv (K : PySem.W.Frag) where
  F : Addr → Prop
  φ : Hp → Hp → Prop
  loc : ∀ G G' H H', Same G G' → (∀ a, F a → H' a = H a) → φ G H → φ G' H'
  dom : ∀ G H, φ G H → ∀ a, F a → H a ≠ none
/-- it holds: G what is known for good, H what stands -/
structure Hd {K : PySem.W.Frag} (I : Iv K) (G H : Hp) : Prop where
  ph : I.φ G H
  fr : ∀ a, I.F a → G a = none
def iEmp (K : PySem.W.Frag) : Iv K := ⟨fun _ => False, fun _ _ => True, fun _ _ _ _ _ _ _ => trivial, fun _ _ _ _ h => h.elim⟩
/-- two regions apart -/
def Iv.and {K : PySem.W.Frag} (I J : Iv K) : Iv K where
  F := fun a => I.F a ∨ J.F a
  φ := fun G H => I.φ G H ∧ J.φ G H ∧ ∀ a, ¬ (I.F a ∧ J.F a)
  loc := fun G G' H H' s k h => ⟨I.loc G G' H H' s (fun a ha => k a (.inl ha)) h.1, J.loc G G' H H' s (fun a ha => k a (.inr ha)) h.2.1, h.2.2⟩
  dom := fun G H h a ha => ha.elim (I.dom G H h.1 a) (J.dom G H h.2.1 a)
/-- the object at p is o, as data: a thing that may change -/
def iObj (K : PySem.W.Frag) (p : Addr) (R : Hp → HO → Prop) (mono : ∀ G G' o, Same G G' → R G o → R G' o) : Iv K where
  F := fun a => a = p
  φ := fun G H => ∃ o, H p = some o ∧ R G o
  loc := fun G G' H H' s k ⟨o, h1, h2⟩ => ⟨o, by rw [k p rfl]; exact h1, mono G G' o s h2⟩
  dom := fun G H ⟨o, h1, _⟩ a ha => by rw [show a = p from ha, h1]; simp
/-- a list that may change -/
def iLst (K : PySem.W.Frag) (p : Addr) (ds : List D) : Iv K := iObj K p (fun G o => ∃ vs, o = .lst vs ∧ Reps K G ds vs) fun _ _ _ s ⟨vs, h1, h2⟩ => ⟨vs, h1, h2.mono s⟩
section
variable {K : PySem.W.Frag} {I J : Iv K} {G G' H H' : Hp}
theorem Hd.emp : Hd (iEmp K) G H := ⟨trivial, fun _ h => h.elim⟩
theorem Hd.left (h : Hd (I.and J) G H) : Hd I G H := ⟨h.ph.1, fun a ha => h.fr a (.inl ha)⟩
theorem Hd.right (h : Hd (I.and J) G H) : Hd J G H := ⟨h.ph.2.1, fun a ha => h.fr a (.inr ha)⟩
theorem Hd.apart (h : Hd (I.and J) G H) : ∀ a, ¬ (I.F a ∧ J.F a) := h.ph.2.2
theorem Hd.mk2 (h1 : Hd I G H) (h2 : Hd J G H) (d : ∀ a, ¬ (I.F a ∧ J.F a)) : Hd (I.and J) G H := ⟨⟨h1.ph, h2.ph, d⟩, fun a ha => ha.elim (h1.fr a) (h2.fr a)⟩
theorem Hd.dom (h : Hd I G H) {a : Addr} (ha : I.F a) : H a ≠ none := I.dom G H h.ph a ha
/-- a new object, to be kept for good -/
theorem Hd.keep (h : Hd I G H) {q : Addr} {o : HO} (hq : H q = none) (sG : Same G H) : Hd I (upd G q o) (upd H q o) := by
  have hg : G q = none := sG.free hq
  have nq : ∀ a, I.F a → a ≠ q := fun a ha e => h.dom ha (by rw [e]; exact hq)
  exact ⟨I.loc G _ H _ (Evl.Ex.new hg) (fun a ha => upd_ne (nq a ha)) h.ph, fun a ha => by rw [upd_ne (nq a ha)]; exact h.fr a ha⟩
/-- a new object, that may change -/
theorem Hd.newp (h : Hd I G H) {q : Addr} {o : HO} (hq : H q = none) : Hd I G (upd H q o) := by
  have nq : ∀ a, I.F a → a ≠ q := fun a ha e => h.dom ha (by rw [e]; exact hq)
  exact ⟨I.loc G G H _ (Same.refl G) (fun a ha => upd_ne (nq a ha)) h.ph, h.fr⟩
/-- something outside is changed -/
theorem Hd.chg (h : Hd I G H) {q : Addr} {o : HO} (hq : ¬ I.F q) : Hd I G (upd H q o) :=
  ⟨I.loc G G H _ (Same.refl G) (fun a ha => upd_ne fun e => hq (by rw [← e]; exact ha)) h.ph, h.fr⟩
theorem same_upd {q : Addr} {o : HO} (s : Same G H) (hq : G q = none) : Same G (upd H q o) := fun a u e => by
  rw [upd_ne (ne_of_none e hq)]
  exact s a u e
theorem same_upd2 {q : Addr} {o : HO} (s : Same G H) : Same (upd G q o) (upd H q o) := fun a u e => by
  by_cases h : a = q
  · rw [h, upd_same] at e
    rw [h, upd_same]
    exact e
  · rw [upd_ne h] at e
    rw [upd_ne h]
    exact s a u e
theorem same_freeze {q : Addr} {o : HO} (s : Same G H) (hq : H q = some o) : Same (upd G q o) H := fun a u e => by
  by_cases h : a = q
  · rw [h, upd_same] at e
    rw [h, hq]
    exact e
  · rw [upd_ne h] at e
    exact s a u e
end

/-! ### a region within others -/
inductive Rc (K : PySem.W.Frag) where
  | here
  | l (c : Rc K) (J : Iv K)
  | r (J : Iv K) (c : Rc K)
def Rc.fill {K : PySem.W.Frag} : Rc K → Iv K → Iv K
  | .here, I => I
  | .l c J, I => (c.fill I).and J
  | .r J c, I => J.and (c.fill I)
/-- I says I' -/
structure Sub {K : PySem.W.Frag} (I I' : Iv K) : Prop where
  F : ∀ a, I'.F a ↔ I.F a
  φ : ∀ G H, I.φ G H → I'.φ G H
section
variable {K : PySem.W.Frag} {I I' J : Iv K} {G G' H H' : Hp}
theorem Hd.sub (s : Sub I I') (h : Hd I G H) : Hd I' G H := ⟨s.φ _ _ h.ph, fun a ha => h.fr a ((s.F a).mp ha)⟩
theorem Sub.refl : Sub I I := ⟨fun _ => Iff.rfl, fun _ _ h => h⟩
theorem Sub.andL (s : Sub I I') : Sub (I.and J) (I'.and J) := ⟨fun a => ⟨fun h => h.imp (s.F a).mp id, fun h => h.imp (s.F a).mpr id⟩, fun G H h => ⟨s.φ _ _ h.1, h.2.1, fun a ha => h.2.2 a ⟨(s.F a).mp ha.1, ha.2⟩⟩⟩
theorem Sub.andR (s : Sub I I') : Sub (J.and I) (J.and I') := ⟨fun a => ⟨fun h => h.imp id (s.F a).mp, fun h => h.imp id (s.F a).mpr⟩, fun G H h => ⟨h.1, s.φ _ _ h.2.1, fun a ha => h.2.2 a ⟨ha.1, (s.F a).mp ha.2⟩⟩⟩
theorem Sub.fill (s : Sub I I') : ∀ c : Rc K, Sub (c.fill I) (c.fill I')
  | .here => s
  | .l c J => (Sub.fill s c).andL
  | .r J c => (Sub.fill s c).andR
theorem Hd.inner : ∀ {c : Rc K}, Hd (c.fill I) G H → Hd I G H
  | .here, h => h
  | .l _ _, h => Hd.inner h.left
  | .r _ _, h => Hd.inner h.right
theorem fill_F (e : ∀ a, I'.F a ↔ I.F a) : ∀ (c : Rc K) (a : Addr), (c.fill I').F a ↔ (c.fill I).F a
  | .here, a => e a
  | .l c J, a => ⟨fun h => h.imp (fill_F e c a).mp id, fun h => h.imp (fill_F e c a).mpr id⟩
  | .r J c, a => ⟨fun h => h.imp id (fill_F e c a).mp, fun h => h.imp id (fill_F e c a).mpr⟩
theorem fill_in : ∀ (c : Rc K) (a : Addr), I.F a → (c.fill I).F a
  | .here, _, h => h
  | .l c _, a, h => .inl (fill_in c a h)
  | .r _ c, a, h => .inr (fill_in c a h)
/-- the inner region is changed -/
theorem Hd.change (e : ∀ a, I'.F a ↔ I.F a) (k : ∀ a, ¬ I.F a → H' a = H a) (h' : Hd I' G H') : ∀ {c : Rc K}, Hd (c.fill I) G H → Hd (c.fill I') G H'
  | .here, _ => h'
  | .l c J, h => by
    have q := Hd.change e k h' h.left
    refine Hd.mk2 q ⟨J.loc G G H H' (Same.refl G) (fun a ha => k a fun z => h.apart a ⟨fill_in c a z, ha⟩) h.right.ph, h.right.fr⟩ fun a ha => h.apart a ⟨(fill_F e c a).mp ha.1, ha.2⟩
  | .r J c, h => by
    have q := Hd.change e k h' h.right
    refine Hd.mk2 ⟨J.loc G G H H' (Same.refl G) (fun a ha => k a fun z => h.apart a ⟨ha, fill_in c a z⟩) h.left.ph, h.left.fr⟩ q fun a ha => h.apart a ⟨ha.1, (fill_F e c a).mp ha.2⟩
/-- .. opened -/
theorem Hd.opens {α : Type} {f : α → Iv K} (e : ∀ x a, (f x).F a ↔ I.F a) (o : ∀ G H, I.φ G H → ∃ x, (f x).φ G H) : ∀ {c : Rc K}, Hd (c.fill I) G H → ∃ x, Hd (c.fill (f x)) G H
  | .here, h => by
    obtain ⟨x, hx⟩ := o _ _ h.ph
    exact ⟨x, hx, fun a ha => h.fr a ((e x a).mp ha)⟩
  | .l c J, h => by
    obtain ⟨x, hx⟩ := Hd.opens e o h.left
    exact ⟨x, Hd.mk2 hx h.right fun a ha => h.apart a ⟨(fill_F (e x) c a).mp ha.1, ha.2⟩⟩
  | .r J c, h => by
    obtain ⟨x, hx⟩ := Hd.opens e o h.right
    exact ⟨x, Hd.mk2 h.left hx fun a ha => h.apart a ⟨ha.1, (fill_F (e x) c a).mp ha.2⟩⟩
end
end DL
set_option Elab.async false
set_option linter.all false
set_option maxRecDepth 100000
set_option maxHeartbeats 4000000
namespace DL
open PySem PySem.Spec PyProof.Rows L2

/-! ### what an expression does -/
structure wpE (X : Cx) (e : Expr) (σ : L2.St) (H : Hp) (Q : VK) : Prop where
  run : ∀ (pins : List (Addr × Obj)) (s : Shared), Inv X pins σ H s → wpAny (model X.prog X.w) X.A (eval e X.env) (EP X pins σ Q) X.xe s
structure wpT (X : Cx) (e : Expr) (σ : L2.St) (H : Hp) (Q : Bool → Hp → Prop) : Prop where
  run : ∀ (pins : List (Addr × Obj)) (s : Shared), Inv X pins σ H s → wpAny (model X.prog X.w) X.A (isTrue e X.env (eval e X.env)) (TP X pins σ Q) X.xe s
structure wpW (X : Cx) (e : Expr) (σ : L2.St) (H : Hp) (Q : Bool → Hp → Prop) : Prop where
  run : ∀ (whole : Sem Value) (pins : List (Addr × Obj)) (s : Shared), Inv X pins σ H s → wpAny (model X.prog X.w) X.A (isTrue e X.env whole) (TP X pins σ Q) X.xe s
structure wpA (X : Cx) (es : List Expr) (σ : L2.St) (H : Hp) (Q : List V → Hp → Prop) : Prop where
  run : ∀ (pos : Pos) (pins : List (Addr × Obj)) (s : Shared), Inv X pins σ H s → wpAny (model X.prog X.w) X.A (spliced (backTo pos (starEach es X.env))) (AP X pins σ Q) X.xe s
structure wpS (X : Cx) (st : Stmt) (D : Ends) (σ : L2.St) (H : Hp) : Prop where
  run : ∀ (pins : List (Addr × Obj)) (s : Shared), Inv X pins σ H s → wpAny (model X.prog X.w) X.A (exec st X.env) (SP X pins D) X.xe s
structure wpB (X : Cx) (sts : List Stmt) (D : Ends) (σ : L2.St) (H : Hp) : Prop where
  run : ∀ (pins : List (Addr × Obj)) (s : Shared), Inv X pins σ H s → wpAny (model X.prog X.w) X.A (execs sts X.env) (SP X pins D) X.xe s
section
variable {X : Cx} {e : Expr} {es : List Expr} {st : Stmt} {sts : List Stmt} {te : TE} {tt : TT} {ta : TA} {ts : TS} {σ : L2.St} {H : Hp}
theorem peC : PE X e (wpE X e) := ⟨fun pins s σ H Q I h => h.run pins s I⟩
theorem ptC : PT X e (wpT X e) := ⟨fun pins s σ H Q I h => h.run pins s I⟩
theorem pwC : PW X e (wpW X e) := ⟨fun whole pins s σ H Q I h => h.run whole pins s I⟩
theorem paC : PA X es (wpA X es) := ⟨fun pos pins s σ H Q I h => h.run pos pins s I⟩
theorem psC : PS X st (wpS X st) := ⟨fun pins s σ H D I h => h.run pins s I⟩
theorem pssC : PSs X sts (wpB X sts) := ⟨fun pins s σ H D I h => h.run pins s I⟩
theorem PE.wp (h : PE X e te) {Q : VK} (q : te σ H Q) : wpE X e σ H Q := ⟨fun pins s I => h.run pins s σ H Q I q⟩
theorem PT.wp (h : PT X e tt) {Q : Bool → Hp → Prop} (q : tt σ H Q) : wpT X e σ H Q := ⟨fun pins s I => h.run pins s σ H Q I q⟩
theorem PW.wp (h : PW X e tt) {Q : Bool → Hp → Prop} (q : tt σ H Q) : wpW X e σ H Q := ⟨fun w pins s I => h.run w pins s σ H Q I q⟩
theorem PA.wp (h : PA X es ta) {Q : List V → Hp → Prop} (q : ta σ H Q) : wpA X es σ H Q := ⟨fun pos pins s I => h.run pos pins s σ H Q I q⟩
theorem PS.wp (h : PS X st ts) {D : Ends} (q : ts D σ H) : wpS X st D σ H := ⟨fun pins s I => h.run pins s σ H D I q⟩
theorem PSs.wp (h : PSs X sts ts) {D : Ends} (q : ts D σ H) : wpB X sts D σ H := ⟨fun pins s I => h.run pins s σ H D I q⟩
end

/-! ### what follows, by data -/
section
variable {K : PySem.W.Frag}
def Kv (K : PySem.W.Frag) (Q : VK) (G : Hp) (P : D → Iv K → Prop) : Prop := ∀ (v : V) (d : D) (G' H' : Hp) (I' : Iv K), Same G G' → Same G' H' → Hd I' G' H' → Rep K G' d v → P d I' → Q v H'
def Kb (K : PySem.W.Frag) (Q : Bool → Hp → Prop) (G : Hp) (P : Bool → Iv K → Prop) : Prop := ∀ (b : Bool) (G' H' : Hp) (I' : Iv K), Same G G' → Same G' H' → Hd I' G' H' → P b I' → Q b H'
def Ka (K : PySem.W.Frag) (Q : List V → Hp → Prop) (G : Hp) (P : List D → Iv K → Prop) : Prop := ∀ (vs : List V) (ds : List D) (G' H' : Hp) (I' : Iv K), Same G G' → Same G' H' → Hd I' G' H' → Reps K G' ds vs → P ds I' → Q vs H'
theorem Kv.mono {Q : VK} {G G1 : Hp} {P : D → Iv K → Prop} (s : Same G G1) (h : Kv K Q G P) : Kv K Q G1 P := fun v d G' H' I' s1 => h v d G' H' I' (s.trans s1)
theorem Kb.mono {Q : Bool → Hp → Prop} {G G1 : Hp} {P : Bool → Iv K → Prop} (s : Same G G1) (h : Kb K Q G P) : Kb K Q G1 P := fun b G' H' I' s1 => h b G' H' I' (s.trans s1)
theorem Ka.mono {Q : List V → Hp → Prop} {G G1 : Hp} {P : List D → Iv K → Prop} (s : Same G G1) (h : Ka K Q G P) : Ka K Q G1 P := fun v d G' H' I' s1 => h v d G' H' I' (s.trans s1)
/-- a two-place operation by data -/
def Op2 (K : PySem.W.Frag) (r : R2) (x y : D) (I : Iv K) (P : D → Iv K → Prop) : Prop := ∀ (G H : Hp) (v w : V) (Q : VK), Same G H → Hd I G H → Rep K G x v → Rep K G y w → Kv K Q G P → r v w H Q
def Op1 (K : PySem.W.Frag) (r : V → Hp → VK → Prop) (x : D) (I : Iv K) (P : D → Iv K → Prop) : Prop := ∀ (G H : Hp) (v : V) (Q : VK), Same G H → Hd I G H → Rep K G x v → Kv K Q G P → r v H Q
def OpN (K : PySem.W.Frag) (r : List V → Hp → VK → Prop) (xs : List D) (I : Iv K) (P : D → Iv K → Prop) : Prop := ∀ (G H : Hp) (vs : List V) (Q : VK), Same G H → Hd I G H → Reps K G xs vs → Kv K Q G P → r vs H Q
end
/-- what is wanted of an exception: its class, its fields -/
abbrev Rx (K : PySem.W.Frag) := Addr → List (Str × D) → Iv K → Prop
def FRep (K : PySem.W.Frag) (G : Hp) : List (Str × D) → List (Str × V) → Prop
  | [], l => l = []
  | p :: ps, l => ∃ v r, l = (p.1, v) :: r ∧ Rep K G p.2 v ∧ FRep K G ps r
def Kx (K : PySem.W.Frag) (W : WX) (σ : L2.St) (G : Hp) (R : Rx K) : Prop := ∀ (C dd : Addr) (fs : List (Str × D)) (l : List (Str × V)) (G' H' : Hp) (I' : Iv K), Same G G' → Same G' H' → Hd I' G' H' → FRep K G' fs l → G' dd = some (.xd l) → R C fs I' → W (.ref C) (some dd) σ H'
theorem Kx.mono {K : PySem.W.Frag} {W : WX} {σ : L2.St} {G G1 : Hp} {R : Rx K} (s : Same G G1) (h : Kx K W σ G R) : Kx K W σ G1 R := fun C dd fs l G' H' I' s1 => h C dd fs l G' H' I' (s.trans s1)
def EvX (X : Cx) (W : WX) (R : Rx X.K) (e : Expr) (δ : DEnv) (I : Iv X.K) (P : D → Iv X.K → Prop) : Prop := ∀ (σ : L2.St) (G H : Hp) (Q : VK), EnvR X.K G δ σ → Same G H → Hd I G H → Kx X.K W σ G R → Kv X.K Q G P → wpE X e σ H Q
def EvT (X : Cx) (W : WX) (R : Rx X.K) (e : Expr) (δ : DEnv) (I : Iv X.K) (P : Bool → Iv X.K → Prop) : Prop := ∀ (σ : L2.St) (G H : Hp) (Q : Bool → Hp → Prop), EnvR X.K G δ σ → Same G H → Hd I G H → Kx X.K W σ G R → Kb X.K Q G P → wpT X e σ H Q
def EvW (X : Cx) (W : WX) (R : Rx X.K) (e : Expr) (δ : DEnv) (I : Iv X.K) (P : Bool → Iv X.K → Prop) : Prop := ∀ (σ : L2.St) (G H : Hp) (Q : Bool → Hp → Prop), EnvR X.K G δ σ → Same G H → Hd I G H → Kx X.K W σ G R → Kb X.K Q G P → wpW X e σ H Q
def EvA (X : Cx) (W : WX) (R : Rx X.K) (es : List Expr) (δ : DEnv) (I : Iv X.K) (P : List D → Iv X.K → Prop) : Prop := ∀ (σ : L2.St) (G H : Hp) (Q : List V → Hp → Prop), EnvR X.K G δ σ → Same G H → Hd I G H → Kx X.K W σ G R → Ka X.K Q G P → wpA X es σ H Q
/-- a value for good -/
def PV (X : Cx) (I : Iv X.K) (e : Expr) (δ : DEnv) (d : D) : Prop := ∀ (W : WX) (R : Rx X.K) (P : D → Iv X.K → Prop), P d I → EvX X W R e δ I P
def PVT (X : Cx) (I : Iv X.K) (e : Expr) (δ : DEnv) (b : Bool) : Prop := ∀ (W : WX) (R : Rx X.K) (P : Bool → Iv X.K → Prop), P b I → EvT X W R e δ I P
def PVW (X : Cx) (I : Iv X.K) (e : Expr) (δ : DEnv) (b : Bool) : Prop := ∀ (W : WX) (R : Rx X.K) (P : Bool → Iv X.K → Prop), P b I → EvW X W R e δ I P
def PVA (X : Cx) (I : Iv X.K) (es : List Expr) (δ : DEnv) (ds : List D) : Prop := ∀ (W : WX) (R : Rx X.K) (P : List D → Iv X.K → Prop), P ds I → EvA X W R es δ I P
def P2 (K : PySem.W.Frag) (I : Iv K) (r : R2) (x y z : D) : Prop := ∀ (P : D → Iv K → Prop), P z I → Op2 K r x y I P
def P1 (K : PySem.W.Frag) (I : Iv K) (r : V → Hp → VK → Prop) (x z : D) : Prop := ∀ (P : D → Iv K → Prop), P z I → Op1 K r x I P
def PN (K : PySem.W.Frag) (I : Iv K) (r : List V → Hp → VK → Prop) (xs : List D) (z : D) : Prop := ∀ (P : D → Iv K → Prop), P z I → OpN K r xs I P

section
variable {X : Cx} {a b c e : Expr} {es rest : List Expr} {δ : DEnv} {I : Iv X.K} {W : WX} {R : Rx X.K} {P P' : D → Iv X.K → Prop} {PB PB' : Bool → Iv X.K → Prop} {PA' : List D → Iv X.K → Prop} {pos p : Pos} {d x y z : D} {x' : Str}
theorem EvX.imp (h : EvX X W R e δ I P) (k : ∀ d I', P d I' → P' d I') : EvX X W R e δ I P' := fun σ G H Q hE s hI qx q => h σ G H Q hE s hI qx fun v d G' H' I' s1 s2 h1 r p => q v d G' H' I' s1 s2 h1 r (k d I' p)
theorem EvT.imp (h : EvT X W R e δ I PB) (k : ∀ d I', PB d I' → PB' d I') : EvT X W R e δ I PB' := fun σ G H Q hE s hI qx q => h σ G H Q hE s hI qx fun d G' H' I' s1 s2 h1 p => q d G' H' I' s1 s2 h1 (k d I' p)
theorem PV.is (h : PV X I e δ d) (q : d = z) : PV X I e δ z := q ▸ h
theorem PVT.is {b c : Bool} (h : PVT X I e δ b) (q : b = c) : PVT X I e δ c := q ▸ h
theorem P2.is {K : PySem.W.Frag} {I : Iv K} {r : R2} {x y z z' : D} (h : P2 K I r x y z) (q : z = z') : P2 K I r x y z' := q ▸ h
/-- a name, a constant -/
theorem pv_t {v : V} (h : PE X e (tC v)) (hr : ∀ G, Rep X.K G d v) : PV X I e δ d := fun W R P p σ G H Q _ s hI _ q => PE.wp h (q v d G H I (Same.refl G) s hI (hr G) p)
theorem pv_int {i : Int} {j} : PV X I (.Constant (.int i) j pos) δ (.int i) := pv_t pe_int fun _ => rfl
theorem pv_str {w : Str} {j} : PV X I (.Constant (.str w) j pos) δ (.str w) := pv_t pe_str fun _ => rfl
theorem pv_bl {k : Bool} {j} : PV X I (.Constant (.bool k) j pos) δ (.bl k) := pv_t pe_bl fun _ => rfl
theorem pv_non {j} : PV X I (.Constant .none j pos) δ .non := pv_t pe_non fun _ => rfl
theorem pv_v (i : Nat) (hd : δ[i]? = some (some d) := by rfl) (hN : X.N[i]? = some x' := by rfl) (hv : Vis X.env.scope x' := by first | exact Or.inl rfl | exact Or.inr (Or.inl rfl) | exact Or.inr (Or.inr rfl)) (hdb : (x' == ("__debug__" : Str)) = false := by decide)
    (hcd : (x' == ("__classdict__" : Str)) = false := by decide) : PV X I (.Name x' pos) δ d := fun W R P p σ G H Q hE s hI qx q => by
  obtain ⟨v, h1, h2⟩ := hE.2 i d hd
  exact PE.wp (pe_var hN hv hdb hcd) ⟨v, h1, q v d G H I (Same.refl G) s hI h2 p⟩
/-- what the module's name holds -/
theorem pv_g {v : V} {u : Value} (hm : X.mg x' = some u) (r : RelV v u) (hr : ∀ G, Rep X.K G d v) (hg : Gl X x' := by rfl) (hdb : (x' == ("__debug__" : Str)) = false := by decide) : PV X I (.Name x' pos) δ d := pv_t (pe_glob hg hm r hdb) hr
theorem pv_gty {n : String} (hm : X.mg x' = none) (hv : bootBuiltins x' = some (.type n) := by decide +kernel) (hg : Gl X x' := by rfl) (hn : x' ≠ "__name__" := by decide) (hdb : (x' == ("__debug__" : Str)) = false := by decide) : PV X I (.Name x' pos) δ (.ty n) :=
  pv_t (v := .ty n) (pe_bltn hg hm hv rfl hn hdb) fun _ => rfl
/-- operators -/
theorem ev_op {op : Operator} {r : R2} (ho : OpR X (binaryOp op) r) (h : EvX X W R a δ I fun x I1 => EvX X W R b δ I1 fun y I2 => Op2 X.K r x y I2 P) : EvX X W R (.BinOp a op b pos) δ I P := fun σ G H Q hE s hI qx q =>
  PE.wp (pe_op ho peC peC) (h σ G H _ hE s hI qx fun v x G1 H1 I1 s1 t1 h1 r1 k1 => k1 σ G1 H1 _ (hE.mono s1) t1 h1 (qx.mono s1) fun w y G2 H2 I2 s2 t2 h2 r2 k2 => k2 G2 H2 v w Q t2 h2 (r1.mono s2) r2 (q.mono (s1.trans s2)))
theorem ev_cmp {op : CmpOp} {r : R2} (ho : OpR X (compareOp op) r) (h : EvX X W R a δ I fun x I1 => EvX X W R b δ I1 fun y I2 => Op2 X.K r x y I2 P) (hm : behindInMarks op b = false := by first | exact nomark _ | rfl) : EvX X W R (.Compare a [op] [b] pos) δ I P := fun σ G H Q hE s hI qx q =>
  PE.wp (pe_cmpR ho peC peC hm) (h σ G H _ hE s hI qx fun v x G1 H1 I1 s1 t1 h1 r1 k1 => k1 σ G1 H1 _ (hE.mono s1) t1 h1 (qx.mono s1) fun w y G2 H2 I2 s2 t2 h2 r2 k2 => k2 G2 H2 v w Q t2 h2 (r1.mono s2) r2 (q.mono (s1.trans s2)))
theorem et_cmp {op : CmpOp} {r : R2} (ho : OpR X (compareOp op) r) (h : EvX X W R a δ I fun x I1 => EvX X W R b δ I1 fun y I2 => Op2 X.K r x y I2 fun z I3 => ∃ k, z = .bl k ∧ PB k I3) (hm : behindInMarks op b = false := by first | exact nomark _ | rfl) : EvT X W R (.Compare a [op] [b] pos) δ I PB := fun σ G H Q hE s hI qx q =>
  PT.wp (pt_cmpR ho peC peC hm) (h σ G H _ hE s hI qx fun v x G1 H1 I1 s1 t1 h1 r1 k1 => k1 σ G1 H1 _ (hE.mono s1) t1 h1 (qx.mono s1) fun w y G2 H2 I2 s2 t2 h2 r2 k2 => k2 G2 H2 v w _ t2 h2 (r1.mono s2) r2 fun z d G3 H3 I3 s3 t3 h3 r3 ⟨k, e, p⟩ => ⟨k, by subst e; exact r3, q k G3 H3 I3 ((s1.trans s2).trans s3) t3 h3 p⟩)
theorem pv_op {op : Operator} {r : R2} (ho : OpR X (binaryOp op) r) (ha : PV X I a δ x) (hb : PV X I b δ y) (h : P2 X.K I r x y z) : PV X I (.BinOp a op b pos) δ z := fun W R P p => ev_op ho (ha W R _ (hb W R _ (h P p)))
theorem pv_cmp {op : CmpOp} {r : R2} (ho : OpR X (compareOp op) r) (ha : PV X I a δ x) (hb : PV X I b δ y) (h : P2 X.K I r x y z) (hm : behindInMarks op b = false := by first | exact nomark _ | rfl) : PV X I (.Compare a [op] [b] pos) δ z := fun W R P p => ev_cmp ho (ha W R _ (hb W R _ (h P p))) hm
theorem pt_cmp {op : CmpOp} {r : R2} {k : Bool} (ho : OpR X (compareOp op) r) (ha : PV X I a δ x) (hb : PV X I b δ y) (h : P2 X.K I r x y (.bl k)) (hm : behindInMarks op b = false := by first | exact nomark _ | rfl) : PVT X I (.Compare a [op] [b] pos) δ k := fun W R P p => et_cmp ho (ha W R _ (hb W R _ (h _ ⟨k, rfl, p⟩))) hm
theorem ev_ix {r : R2} (ho : IxR X r) (h : EvX X W R a δ I fun x I1 => EvX X W R b δ I1 fun y I2 => Op2 X.K r x y I2 P) (hs : PlainIx b := by exact fun _ _ => rfl) : EvX X W R (.Subscript a b pos) δ I P := fun σ G H Q hE s hI qx q =>
  PE.wp (pe_ix ho peC peC hs) (h σ G H _ hE s hI qx fun v x G1 H1 I1 s1 t1 h1 r1 k1 => k1 σ G1 H1 _ (hE.mono s1) t1 h1 (qx.mono s1) fun w y G2 H2 I2 s2 t2 h2 r2 k2 => k2 G2 H2 v w Q t2 h2 (r1.mono s2) r2 (q.mono (s1.trans s2)))
theorem pv_ix {r : R2} (ho : IxR X r) (ha : PV X I a δ x) (hb : PV X I b δ y) (h : P2 X.K I r x y z) (hs : PlainIx b := by exact fun _ _ => rfl) : PV X I (.Subscript a b pos) δ z := fun W R P p => ev_ix ho (ha W R _ (hb W R _ (h P p))) hs
theorem ev_un {op : UnaryOp} {r : V → Hp → VK → Prop} (ho : UnR X (unaryOp op) r) (h : EvX X W R a δ I fun x I1 => Op1 X.K r x I1 P) : EvX X W R (.UnaryOp op a pos) δ I P := fun σ G H Q hE s hI qx q =>
  PE.wp (pe_un ho peC) (h σ G H _ hE s hI qx fun v x G1 H1 I1 s1 t1 h1 r1 k1 => k1 G1 H1 v Q t1 h1 r1 (q.mono s1))
theorem pv_un {op : UnaryOp} {r : V → Hp → VK → Prop} (ho : UnR X (unaryOp op) r) (ha : PV X I a δ x) (h : P1 X.K I r x z) : PV X I (.UnaryOp op a pos) δ z := fun W R P p => ev_un ho (ha W R _ (h P p))
/-- tests -/
theorem et_val (h : EvX X W R e δ I fun z I1 => ∃ k, z = .bl k ∧ PB k I1) (he : ∀ whole, isTrue e X.env whole = (do let v ← whole; standAt e.pos; holding [v] (truthy v)) := by intro _; rfl) : EvT X W R e δ I PB := fun σ G H Q hE s hI qx q =>
  PT.wp (pt_val peC he) (h σ G H _ hE s hI qx fun v d G1 H1 I1 s1 t1 h1 r1 ⟨k, ek, p⟩ => ⟨k, by subst ek; exact r1, q k G1 H1 I1 s1 t1 h1 p⟩)
theorem pt_v {k : Bool} (h : PV X I e δ (.bl k)) (he : ∀ whole, isTrue e X.env whole = (do let v ← whole; standAt e.pos; holding [v] (truthy v)) := by intro _; rfl) : PVT X I e δ k := fun W R P p => et_val (h W R _ ⟨k, rfl, p⟩) he
theorem et_not (h : EvT X W R a δ I fun k I1 => PB (!k) I1) : EvT X W R (.UnaryOp .Not a pos) δ I PB := fun σ G H Q hE s hI qx q =>
  PT.wp (L2.pt_not ptC) (h σ G H _ hE s hI qx fun k G1 H1 I1 s1 t1 h1 p => q (!k) G1 H1 I1 s1 t1 h1 p)
theorem ptn {k : Bool} (h : PVT X I a δ k) : PVT X I (.UnaryOp .Not a pos) δ (!k) := fun W R P p => et_not (h W R _ p)
theorem ew_and (h : EvT X W R a δ I fun k I1 => if k = true then EvW X W R (.BoolOp .And (b :: rest) pos) δ I1 PB else PB false I1) : EvW X W R (.BoolOp .And (a :: b :: rest) pos) δ I PB := fun σ G H Q hE s hI qx q =>
  PW.wp (pw_and ptC pwC) (h σ G H _ hE s hI qx fun k G1 H1 I1 s1 t1 h1 p => by
    cases k with
    | true => exact (show EvW X W R (.BoolOp .And (b :: rest) pos) δ I1 PB from p) σ G1 H1 Q (hE.mono s1) t1 h1 (qx.mono s1) (q.mono s1)
    | false => exact q false G1 H1 I1 s1 t1 h1 p)
theorem ew_or (h : EvT X W R a δ I fun k I1 => if k = true then PB true I1 else EvW X W R (.BoolOp .Or (b :: rest) pos) δ I1 PB) : EvW X W R (.BoolOp .Or (a :: b :: rest) pos) δ I PB := fun σ G H Q hE s hI qx q =>
  PW.wp (pw_or ptC pwC) (h σ G H _ hE s hI qx fun k G1 H1 I1 s1 t1 h1 p => by
    cases k with
    | false => exact (show EvW X W R (.BoolOp .Or (b :: rest) pos) δ I1 PB from p) σ G1 H1 Q (hE.mono s1) t1 h1 (qx.mono s1) (q.mono s1)
    | true => exact q true G1 H1 I1 s1 t1 h1 p)
theorem ew_and1 (h : EvT X W R a δ I PB) : EvW X W R (.BoolOp .And [a] pos) δ I PB := fun σ G H Q hE s hI qx q => PW.wp (pw_and1 ptC) (h σ G H _ hE s hI qx q)
theorem ew_or1 (h : EvT X W R a δ I PB) : EvW X W R (.BoolOp .Or [a] pos) δ I PB := fun σ G H Q hE s hI qx q => PW.wp (pw_or1 ptC) (h σ G H _ hE s hI qx q)
theorem et_w (h : EvW X W R e δ I PB) : EvT X W R e δ I PB := fun σ G H Q hE s hI qx q => ⟨fun pins s1 J => (h σ G H Q hE s hI qx q).run _ pins s1 J⟩
theorem ww_and {k l : Bool} (h1 : PVT X I a δ k) (h2 : k = true → PVW X I (.BoolOp .And (b :: rest) pos) δ l) : PVW X I (.BoolOp .And (a :: b :: rest) pos) δ (k && l) := fun W R P p => ew_and (h1 W R _ (by
  cases k with
  | true => exact h2 rfl W R P p
  | false => exact p))
theorem ww_or {k l : Bool} (h1 : PVT X I a δ k) (h2 : k = false → PVW X I (.BoolOp .Or (b :: rest) pos) δ l) : PVW X I (.BoolOp .Or (a :: b :: rest) pos) δ (k || l) := fun W R P p => ew_or (h1 W R _ (by
  cases k with
  | false => exact h2 rfl W R P p
  | true => exact p))
theorem ww_and1 {k : Bool} (h : PVT X I a δ k) : PVW X I (.BoolOp .And [a] pos) δ k := fun W R P p => ew_and1 (h W R P p)
theorem ww_or1 {k : Bool} (h : PVT X I a δ k) : PVW X I (.BoolOp .Or [a] pos) δ k := fun W R P p => ew_or1 (h W R P p)
theorem ptw {k : Bool} (h : PVW X I e δ k) : PVT X I e δ k := fun W R P p => et_w (h W R P p)
/-- and, or, not, if as values (truths) -/
theorem pv_and {k : Bool} (h1 : PV X I a δ (.bl k)) (h2 : k = true → PV X I (.BoolOp .And (b :: rest) pos) δ z) (h3 : k = false → z = .bl false) : PV X I (.BoolOp .And (a :: b :: rest) pos) δ z := fun W R P p σ G H Q hE s hI qx q =>
  PE.wp (pe_and peC peC) (h1 W R (fun z I1 => z = .bl k ∧ I1 = I) ⟨rfl, rfl⟩ σ G H _ hE s hI qx fun v d G1 H1 I1 s1 t1 e1 r1 ⟨ed, ei⟩ => by
    subst ed ei
    refine ⟨k, r1, ?_⟩
    cases k with
    | true => exact h2 rfl W R P p σ G1 H1 Q (hE.mono s1) t1 e1 (qx.mono s1) (q.mono s1)
    | false =>
      have ez := h3 rfl
      subst ez
      exact q (.bl false) (.bl false) G1 H1 _ s1 t1 e1 rfl p)
theorem pv_or {k : Bool} (h1 : PV X I a δ (.bl k)) (h2 : k = false → PV X I (.BoolOp .Or (b :: rest) pos) δ z) (h3 : k = true → z = .bl true) : PV X I (.BoolOp .Or (a :: b :: rest) pos) δ z := fun W R P p σ G H Q hE s hI qx q =>
  PE.wp (pe_or peC peC) (h1 W R (fun z I1 => z = .bl k ∧ I1 = I) ⟨rfl, rfl⟩ σ G H _ hE s hI qx fun v d G1 H1 I1 s1 t1 e1 r1 ⟨ed, ei⟩ => by
    subst ed ei
    refine ⟨k, r1, ?_⟩
    cases k with
    | false => exact h2 rfl W R P p σ G1 H1 Q (hE.mono s1) t1 e1 (qx.mono s1) (q.mono s1)
    | true =>
      have ez := h3 rfl
      subst ez
      exact q (.bl true) (.bl true) G1 H1 _ s1 t1 e1 rfl p)
theorem pv_one {op} (h : PV X I a δ z) : PV X I (.BoolOp op [a] pos) δ z := fun W R P p σ G H Q hE s hI qx q => PE.wp (pe_one peC) (h W R P p σ G H Q hE s hI qx q)
theorem pv_andB {k l : Bool} (h1 : PV X I a δ (.bl k)) (h2 : k = true → PV X I (.BoolOp .And (b :: rest) pos) δ (.bl l)) : PV X I (.BoolOp .And (a :: b :: rest) pos) δ (.bl (k && l)) := by
  cases k with
  | true => exact pv_and h1 h2 (fun z => nomatch z)
  | false => exact pv_and h1 (fun z => nomatch z) (fun _ => rfl)
theorem pv_orB {k l : Bool} (h1 : PV X I a δ (.bl k)) (h2 : k = false → PV X I (.BoolOp .Or (b :: rest) pos) δ (.bl l)) : PV X I (.BoolOp .Or (a :: b :: rest) pos) δ (.bl (k || l)) := by
  cases k with
  | false => exact pv_or h1 h2 (fun z => nomatch z)
  | true => exact pv_or h1 (fun z => nomatch z) (fun _ => rfl)
theorem pv_not {k : Bool} (h : PV X I a δ (.bl k)) : PV X I (.UnaryOp .Not a pos) δ (.bl (!k)) := fun W R P p σ G H Q hE s hI qx q =>
  PE.wp (pe_not peC) (h W R (fun z I1 => z = .bl k ∧ I1 = I) ⟨rfl, rfl⟩ σ G H _ hE s hI qx fun v d G1 H1 I1 s1 t1 e1 r1 ⟨ed, ei⟩ => by
    subst ed ei
    exact ⟨k, r1, q _ (.bl (!k)) G1 H1 _ s1 t1 e1 rfl p⟩)
theorem pv_if {k : Bool} (h : PVT X I c δ k) (h1 : k = true → PV X I a δ z) (h2 : k = false → PV X I b δ z) : PV X I (.IfExp c a b pos) δ z := fun W R P p σ G H Q hE s hI qx q =>
  PE.wp (pe_ifExp ptC peC peC) (h W R (fun l I1 => l = k ∧ I1 = I) ⟨rfl, rfl⟩ σ G H _ hE s hI qx fun l G1 H1 I1 s1 t1 e1 ⟨el, ei⟩ => by
    subst el ei
    cases l with
    | true => exact h1 rfl W R P p σ G1 H1 Q (hE.mono s1) t1 e1 (qx.mono s1) (q.mono s1)
    | false => exact h2 rfl W R P p σ G1 H1 Q (hE.mono s1) t1 e1 (qx.mono s1) (q.mono s1))
/-- lists of expressions, displays -/
theorem ea_nil (p : PA' [] I) : EvA X W R [] δ I PA' := fun σ G H Q hE s hI qx q => PA.wp pa_nil (q [] [] G H I (Same.refl G) s hI rfl p)
theorem ea_cons (h : EvX X W R e δ I fun d I1 => EvA X W R es δ I1 fun ds I2 => PA' (d :: ds) I2) (hs : starEach (e :: es) X.env = (false, eval e X.env) :: starEach es X.env := by rfl) : EvA X W R (e :: es) δ I PA' := fun σ G H Q hE s hI qx q =>
  PA.wp (pa_cons peC paC hs) (h σ G H _ hE s hI qx fun v d G1 H1 I1 s1 t1 h1 r1 k => k σ G1 H1 _ (hE.mono s1) t1 h1 (qx.mono s1) fun vs ds G2 H2 I2 s2 t2 h2 r2 k2 => q (v :: vs) (d :: ds) G2 H2 I2 (s1.trans s2) t2 h2 ⟨v, vs, rfl, r1.mono s2, r2⟩ k2)
theorem va_nil : PVA X I [] δ [] := fun W R P p => ea_nil p
theorem va_cons {ds : List D} (h : PV X I e δ d) (t : PVA X I es δ ds) (hs : starEach (e :: es) X.env = (false, eval e X.env) :: starEach es X.env := by rfl) : PVA X I (e :: es) δ (d :: ds) := fun W R P p => ea_cons (h W R _ (t W R _ p)) hs
theorem ev_tup {x1} (h : EvA X W R es δ I fun ds I1 => ds.length ≤ 1000 ∧ P (.tup ds) I1) : EvX X W R (.Tuple es x1 pos) δ I P := fun σ G H Q hE s hI qx q =>
  PE.wp (pe_tup paC) (h σ G H _ hE s hI qx fun vs ds G1 H1 I1 s1 t1 h1 r1 ⟨hl, k⟩ => ⟨by rw [r1.length, sizeLine_eq]; omega, fun p hp => by
    have hg : G1 p = none := t1.free hp
    exact q (.ref p) (.tup ds) (upd G1 p (.tup vs)) _ I1 (s1.trans (Evl.Ex.new hg)) (same_upd2 t1) (h1.keep hp t1) ⟨p, vs, rfl, SqT.of upd_same, r1.mono (Evl.Ex.new hg)⟩ k⟩)
/-- a list that does not change any more -/
theorem ev_lst (h : EvA X W R es δ I fun ds I1 => ds.length ≤ 1000 ∧ P (.lst ds) I1) : EvX X W R (.List es pos) δ I P := fun σ G H Q hE s hI qx q =>
  PE.wp (pe_lst paC) (h σ G H _ hE s hI qx fun vs ds G1 H1 I1 s1 t1 h1 r1 ⟨hl, k⟩ => ⟨by rw [r1.length, sizeLine_eq]; omega, fun p hp => by
    have hg : G1 p = none := t1.free hp
    exact q (.ref p) (.lst ds) (upd G1 p (.lst vs)) _ I1 (s1.trans (Evl.Ex.new hg)) (same_upd2 t1) (h1.keep hp t1) ⟨p, vs, rfl, upd_same, r1.mono (Evl.Ex.new hg)⟩ k⟩)
theorem pv_tup {x1} {ds : List D} (h : PVA X I es δ ds) (hl : ds.length ≤ 1000 := by first | decide | simp) : PV X I (.Tuple es x1 pos) δ (.tup ds) := fun W R P p => ev_tup (h W R _ ⟨hl, p⟩)
theorem pv_lst {ds : List D} (h : PVA X I es δ ds) (hl : ds.length ≤ 1000 := by first | decide | simp) : PV X I (.List es pos) δ (.lst ds) := fun W R P p => ev_lst (h W R _ ⟨hl, p⟩)
/-- a list that may change -/
theorem ev_lstM {ds : List D} (h : PVA X I es δ ds) (hl : ds.length ≤ 1000) (hp : ∀ p, (∀ a, ¬ (I.F a ∧ a = p)) → P (.adr p) (I.and (iLst X.K p ds))) : EvX X W R (.List es pos) δ I P := fun σ G H Q hE s hI qx q =>
  PE.wp (pe_lst paC) (h W R (fun es I1 => es = ds ∧ I1 = I) ⟨rfl, rfl⟩ σ G H _ hE s hI qx fun vs es G1 H1 I1 s1 t1 h1 r1 ⟨ee, ei⟩ => ⟨by rw [r1.length, ee, sizeLine_eq]; omega, fun p hq => by
    subst ee ei
    have hg : G1 p = none := t1.free hq
    have na : ∀ a, ¬ (I1.F a ∧ a = p) := fun a ha => h1.dom ha.1 (by rw [ha.2]; exact hq)
    exact q (.ref p) (.adr p) G1 _ (I1.and (iLst X.K p es)) s1 (same_upd t1 hg) (Hd.mk2 (h1.newp hq) ⟨⟨_, upd_same, vs, rfl, r1⟩, fun a ha => by rw [show a = p from ha]; exact hg⟩ na) rfl (hp p na)⟩)
/-- calls of what is built in -/
theorem ev_cb {r : List V → Hp → VK → Prop} {id : String} (hc : CallR X (.builtin id) r) (hm : X.mg x' = none) (h : EvA X W R (e :: es) δ I fun ds I1 => OpN X.K r ds I1 P) (hv : bootBuiltins x' = some (.builtin id) := by decide +kernel) (hg : Gl X x' := by rfl) (hn : x' ≠ "__name__" := by decide) (hdb : (x' == ("__debug__" : Str)) = false := by decide)
    (he : starEach (e :: es) X.env = (false, eval e X.env) :: starEach es X.env := by rfl) (hpl : (backTo pos (starEach es X.env)).any (·.1) = false := by rfl) : EvX X W R (.Call (.Name x' p) (e :: es) [] pos) δ I P := fun σ G H Q hE s hI qx q =>
  PE.wp (pe_callB hc hg hm hv paC hn hdb he hpl) (h σ G H _ hE s hI qx fun vs ds G1 H1 I1 s1 t1 h1 r1 k => k G1 H1 vs Q t1 h1 r1 (q.mono s1))
theorem ev_ct {r : List V → Hp → VK → Prop} {T : String} (hc : CallR X (.type T) r) (hm : X.mg x' = none) (h : EvA X W R (e :: es) δ I fun ds I1 => OpN X.K r ds I1 P) (hv : bootBuiltins x' = some (.type T) := by decide +kernel) (hg : Gl X x' := by rfl) (hn : x' ≠ "__name__" := by decide) (hdb : (x' == ("__debug__" : Str)) = false := by decide)
    (he : starEach (e :: es) X.env = (false, eval e X.env) :: starEach es X.env := by rfl) (hpl : (backTo pos (starEach es X.env)).any (·.1) = false := by rfl) : EvX X W R (.Call (.Name x' p) (e :: es) [] pos) δ I P := fun σ G H Q hE s hI qx q =>
  PE.wp (pe_callTy hc hg hm hv paC hn hdb he hpl) (h σ G H _ hE s hI qx fun vs ds G1 H1 I1 s1 t1 h1 r1 k => k G1 H1 vs Q t1 h1 r1 (q.mono s1))
theorem pv_cb {r : List V → Hp → VK → Prop} {id : String} {ds : List D} (hc : CallR X (.builtin id) r) (hm : X.mg x' = none) (h : PVA X I (e :: es) δ ds) (k : PN X.K I r ds z) (hv : bootBuiltins x' = some (.builtin id) := by decide +kernel) (hg : Gl X x' := by rfl) (hn : x' ≠ "__name__" := by decide) (hdb : (x' == ("__debug__" : Str)) = false := by decide)
    (he : starEach (e :: es) X.env = (false, eval e X.env) :: starEach es X.env := by rfl) (hpl : (backTo pos (starEach es X.env)).any (·.1) = false := by rfl) : PV X I (.Call (.Name x' p) (e :: es) [] pos) δ z := fun W R P p => ev_cb hc hm (h W R _ (k P p)) hv hg hn hdb he hpl
theorem pv_ct {r : List V → Hp → VK → Prop} {T : String} {ds : List D} (hc : CallR X (.type T) r) (hm : X.mg x' = none) (h : PVA X I (e :: es) δ ds) (k : PN X.K I r ds z) (hv : bootBuiltins x' = some (.type T) := by decide +kernel) (hg : Gl X x' := by rfl) (hn : x' ≠ "__name__" := by decide) (hdb : (x' == ("__debug__" : Str)) = false := by decide)
    (he : starEach (e :: es) X.env = (false, eval e X.env) :: starEach es X.env := by rfl) (hpl : (backTo pos (starEach es X.env)).any (·.1) = false := by rfl) : PV X I (.Call (.Name x' p) (e :: es) [] pos) δ z := fun W R P p => ev_ct hc hm (h W R _ (k P p)) hv hg hn hdb he hpl
end
end DL
set_option Elab.async false
set_option linter.all false
set_option maxRecDepth 100000
set_option maxHeartbeats 4000000
namespace DL
open PySem PySem.Spec PyProof.Rows L2

/-! ### ways out of a block -/
structure Ko (K : PySem.W.Frag) where
  nx : DEnv → Iv K → Prop
  rt : D → Iv K → Prop
  bk : DEnv → Iv K → Prop := fun _ _ => False
  ct : DEnv → Iv K → Prop := fun _ _ => False
  ex : Addr → List (Str × D) → DEnv → Iv K → Prop := fun _ _ _ _ => False
def Ks (K : PySem.W.Frag) (N : L2.St → Hp → Prop) (G : Hp) (n : DEnv → Iv K → Prop) : Prop := ∀ (δ : DEnv) (σ : L2.St) (G' H' : Hp) (I' : Iv K), Same G G' → Same G' H' → Hd I' G' H' → EnvR K G' δ σ → n δ I' → N σ H'
def Ke (K : PySem.W.Frag) (W : WX) (G : Hp) (x : Addr → List (Str × D) → DEnv → Iv K → Prop) : Prop := ∀ (C dd : Addr) (fs : List (Str × D)) (l : List (Str × V)) (δ : DEnv) (σ : L2.St) (G' H' : Hp) (I' : Iv K), Same G G' → Same G' H' → Hd I' G' H' → EnvR K G' δ σ → FRep K G' fs l → G' dd = some (.xd l) → x C fs δ I' → W (.ref C) (some dd) σ H'
structure KoLe (K : PySem.W.Frag) (W : WX) (E : Ends) (G : Hp) (κ : Ko K) : Prop where
  nx : Ks K E.nx G κ.nx
  rt : Kv K E.rt G κ.rt
  bk : Ks K E.bk G κ.bk
  ct : Ks K E.ct G κ.ct
  ex : Ke K W G κ.ex
section
variable {K : PySem.W.Frag} {W : WX} {E : Ends} {G G1 : Hp} {κ : Ko K}
theorem Ks.mono {N : L2.St → Hp → Prop} {n : DEnv → Iv K → Prop} (s : Same G G1) (h : Ks K N G n) : Ks K N G1 n := fun δ σ G' H' I' s1 => h δ σ G' H' I' (s.trans s1)
theorem Ke.mono {x : Addr → List (Str × D) → DEnv → Iv K → Prop} (s : Same G G1) (h : Ke K W G x) : Ke K W G1 x := fun C dd fs l δ σ G' H' I' s1 => h C dd fs l δ σ G' H' I' (s.trans s1)
theorem KoLe.mono (s : Same G G1) (h : KoLe K W E G κ) : KoLe K W E G1 κ := ⟨h.nx.mono s, h.rt.mono s, h.bk.mono s, h.ct.mono s, h.ex.mono s⟩
theorem KoLe.kx {δ : DEnv} {σ : L2.St} (h : KoLe K W E G κ) (hE : EnvR K G δ σ) : Kx K W σ G (fun C fs I' => κ.ex C fs δ I') := fun C dd fs l G' H' I' s1 s2 h1 r hd p => h.ex C dd fs l δ σ G' H' I' s1 s2 h1 (hE.mono s1) r hd p
end
/-- a block, a statement -/
def SX (X : Cx) (W : WX) (sts : List Stmt) (δ : DEnv) (I : Iv X.K) (κ : Ko X.K) : Prop := ∀ (σ : L2.St) (G H : Hp) (E : Ends), EnvR X.K G δ σ → Same G H → Hd I G H → KoLe X.K W E G κ → wpB X sts E σ H
def S1 (X : Cx) (W : WX) (st : Stmt) (δ : DEnv) (I : Iv X.K) (κ : Ko X.K) : Prop := ∀ (σ : L2.St) (G H : Hp) (E : Ends), EnvR X.K G δ σ → Same G H → Hd I G H → KoLe X.K W E G κ → wpS X st E σ H
abbrev Ko.r {K : PySem.W.Frag} (κ : Ko K) (δ : DEnv) : Rx K := fun C fs I' => κ.ex C fs δ I'
/-- a target is bound -/
structure wpG (X : Cx) (tg : Expr) (v : V) (σ : L2.St) (H : Hp) (Q : L2.St → Hp → Prop) : Prop where
  run : ∀ (pins : List (Addr × Obj)) (s : Shared) (u : Value), Inv X pins σ H s → RelV v u → wpAny (model X.prog X.w) X.A (assign tg X.env u) (fun _ s' => ∃ σ' H', Inv X pins σ' H' s' ∧ Q σ' H') X.xe s
def BindD (X : Cx) (tg : Expr) (d : D) (δ δ' : DEnv) (vs : List Nat) : Prop := ∀ (v : V) (σ : L2.St) (G H : Hp) (Q : L2.St → Hp → Prop), EnvR X.K G δ σ → Same G H → Rep X.K G d v → (∀ σ', EnvR X.K G δ' σ' → wipe σ' vs = wipe σ vs → Q σ' H) → wpG X tg v σ H Q
/-- what is walked -/
structure wpI (X : Cx) (tg iter : Expr) (σ : L2.St) (H : Hp) (RR : It → Hp → Prop) : Prop where
  run : ∀ (pins : List (Addr × Obj)) (s : Shared), Inv X pins σ H s → wpAny (model X.prog X.w) X.A (eval iter X.env) (fun v s1 => wpAny (model X.prog X.w) X.A (pyIter v) (PIE X pins σ tg RR) X.xe s1) X.xe s
structure WalkD (K : PySem.W.Frag) (J : It) (ds : List D) (G : Hp) : Prop where
  go : ∀ i G' H', Same G G' → Same G' H' → i < ds.length → J.go i H'
  stop : ∀ G' H', Same G G' → Same G' H' → J.stop ds.length H'
  yld : ∀ i G' H' (I : Iv K) x H'', Same G G' → Same G' H' → Hd I G' H' → i < ds.length → J.yld i H' x H'' → ∃ G'', Same G' G'' ∧ Same G'' H'' ∧ Hd I G'' H'' ∧ (∀ a o, H' a = some o → H'' a = some o) ∧ ∃ d, ds[i]? = some d ∧ Rep K G'' d x
theorem WalkD.mono {K : PySem.W.Frag} {J : It} {ds : List D} {G G1 : Hp} (h : WalkD K J ds G) (s : Same G G1) : WalkD K J ds G1 :=
  ⟨fun i G' H' s1 => h.go i G' H' (s.trans s1), fun G' H' s1 => h.stop G' H' (s.trans s1), fun i G' H' I x H'' s1 => h.yld i G' H' I x H'' (s.trans s1)⟩
def EvI (X : Cx) (W : WX) (R : Rx X.K) (tg iter : Expr) (δ : DEnv) (I : Iv X.K) (P : List D → Iv X.K → Prop) : Prop := ∀ (σ : L2.St) (G H : Hp) (RR : It → Hp → Prop), EnvR X.K G δ σ → Same G H → Hd I G H → Kx X.K W σ G R →
  (∀ (J : It) (ds : List D) (G' H' : Hp) (I' : Iv X.K), Same G G' → Same G' H' → Hd I' G' H' → WalkD X.K J ds G' → P ds I' → RR J H') → wpI X tg iter σ H RR
/-- .. for good -/
def PVI (X : Cx) (I : Iv X.K) (tg iter : Expr) (δ : DEnv) (ds : List D) : Prop := ∀ (W : WX) (R : Rx X.K) (P : List D → Iv X.K → Prop), P ds I → EvI X W R tg iter δ I P
section
variable {X : Cx} {tg iter : Expr} {wi : TI} {g : TG}
theorem piC : PI X tg iter (wpI X tg iter) := ⟨fun pins s σ H R I h => h.run pins s I⟩
theorem PI.wp (h : PI X tg iter wi) {σ : L2.St} {H : Hp} {RR : It → Hp → Prop} (q : wi σ H RR) : wpI X tg iter σ H RR := ⟨fun pins s I => h.run pins s σ H RR I q⟩
theorem pgC : PG X tg (wpG X tg) := ⟨fun pins s σ H v u Q I r h => h.run pins s u I r⟩
theorem PG.wp (h : PG X tg g) {v : V} {σ : L2.St} {H : Hp} {Q : L2.St → Hp → Prop} (q : g v σ H Q) : wpG X tg v σ H Q := ⟨fun pins s u I r => h.run pins s σ H v u Q I r q⟩
end
/-! ### slots forgotten -/
def wipeD (δ : DEnv) : List Nat → DEnv
  | [] => δ
  | v :: vs => (wipeD δ vs).set v none
theorem EnvR.wipe {K : PySem.W.Frag} {G : Hp} {δ : DEnv} {σ : L2.St} (h : EnvR K G δ σ) : ∀ vs, EnvR K G (wipeD δ vs) (L2.wipe σ vs)
  | [] => h
  | _ :: vs => (EnvR.wipe h vs).drop none
theorem wipe_get (σ : L2.St) (j : Nat) : ∀ vs : List Nat, (L2.wipe σ vs)[j]? = if j ∈ vs then (if j < σ.length then some none else none) else σ[j]?
  | [] => by simp [L2.wipe]
  | v :: vs => by
    unfold L2.wipe
    by_cases h : v = j
    · subst h
      rw [List.getElem?_set, wipe_length]
      simp
    · rw [List.getElem?_set_ne h, wipe_get σ j vs]
      have e : (j ∈ v :: vs) ↔ (j ∈ vs) := by
        simp only [List.mem_cons]
        exact ⟨fun z => z.elim (fun z => absurd z.symm h) id, .inr⟩
      by_cases q : j ∈ vs
      · rw [if_pos q, if_pos (e.mpr q)]
      · rw [if_neg q, if_neg (fun z => q (e.mp z))]
theorem wipe_set (σ : L2.St) {i : Nat} {x : Option V} {vs : List Nat} (h : i ∈ vs) : L2.wipe (σ.set i x) vs = L2.wipe σ vs := by
  apply List.ext_getElem?
  intro j
  rw [wipe_get, wipe_get]
  by_cases q : j ∈ vs
  · simp [q]
  · rw [if_neg q, if_neg q, List.getElem?_set_ne]
    intro e
    exact q (e ▸ h)
theorem wipe_wipe (σ : L2.St) (vs : List Nat) : L2.wipe (L2.wipe σ vs) vs = L2.wipe σ vs := by
  apply List.ext_getElem?
  intro j
  rw [wipe_get]
  by_cases q : j ∈ vs
  · rw [if_pos q, wipe_get, if_pos q, wipe_length]
  · rw [if_neg q]

section
variable {X : Cx} {W : WX} {a b c e : Expr} {es : List Expr} {st : Stmt} {sts rest : List Stmt} {δ : DEnv} {I : Iv X.K} {κ : Ko X.K} {pos p : Pos} {d x y z : D} {x' : Str} {i : Nat}
theorem s_nil (h : κ.nx δ I) : SX X W [] δ I κ := fun σ G H E hE s hI k => PSs.wp pss_nil (k.nx δ σ G H I (Same.refl G) s hI hE h)
theorem s_cons (h : S1 X W st δ I { κ with nx := fun δ' I' => SX X W rest δ' I' κ }) : SX X W (st :: rest) δ I κ := fun σ G H E hE s hI k =>
  PSs.wp (pss_cons psC pssC) (h σ G H _ hE s hI ⟨fun δ' σ' G' H' I' s1 t1 h1 r p => p σ' G' H' E r t1 h1 (k.mono s1), k.rt, k.bk, k.ct, k.ex⟩)
theorem s_one (h : S1 X W st δ I κ) : SX X W [st] δ I κ := fun σ G H E hE s hI k => PSs.wp (pss_one psC) (h σ G H E hE s hI k)
theorem S1.imp {κ' : Ko X.K} (h : S1 X W st δ I κ') (n : ∀ δ I, κ'.nx δ I → κ.nx δ I) (r : ∀ d I, κ'.rt d I → κ.rt d I) (b : ∀ δ I, κ'.bk δ I → κ.bk δ I) (c : ∀ δ I, κ'.ct δ I → κ.ct δ I) (x : ∀ C fs δ I, κ'.ex C fs δ I → κ.ex C fs δ I) : S1 X W st δ I κ := fun σ G H E hE s hI k =>
  h σ G H E hE s hI ⟨fun δ' σ' G' H' I' s1 t1 h1 r p => k.nx δ' σ' G' H' I' s1 t1 h1 r (n _ _ p), fun v d G' H' I' s1 t1 h1 r1 p => k.rt v d G' H' I' s1 t1 h1 r1 (r _ _ p), fun δ' σ' G' H' I' s1 t1 h1 r p => k.bk δ' σ' G' H' I' s1 t1 h1 r (b _ _ p), fun δ' σ' G' H' I' s1 t1 h1 r p => k.ct δ' σ' G' H' I' s1 t1 h1 r (c _ _ p),
    fun C dd fs l δ' σ' G' H' I' s1 t1 h1 r q hd p => k.ex C dd fs l δ' σ' G' H' I' s1 t1 h1 r q hd (x _ _ _ _ p)⟩
theorem SX.imp {κ' : Ko X.K} (h : SX X W sts δ I κ') (n : ∀ δ I, κ'.nx δ I → κ.nx δ I) (r : ∀ d I, κ'.rt d I → κ.rt d I) (b : ∀ δ I, κ'.bk δ I → κ.bk δ I) (c : ∀ δ I, κ'.ct δ I → κ.ct δ I) (x : ∀ C fs δ I, κ'.ex C fs δ I → κ.ex C fs δ I) : SX X W sts δ I κ := fun σ G H E hE s hI k =>
  h σ G H E hE s hI ⟨fun δ' σ' G' H' I' s1 t1 h1 r p => k.nx δ' σ' G' H' I' s1 t1 h1 r (n _ _ p), fun v d G' H' I' s1 t1 h1 r1 p => k.rt v d G' H' I' s1 t1 h1 r1 (r _ _ p), fun δ' σ' G' H' I' s1 t1 h1 r p => k.bk δ' σ' G' H' I' s1 t1 h1 r (b _ _ p), fun δ' σ' G' H' I' s1 t1 h1 r p => k.ct δ' σ' G' H' I' s1 t1 h1 r (c _ _ p),
    fun C dd fs l δ' σ' G' H' I' s1 t1 h1 r q hd p => k.ex C dd fs l δ' σ' G' H' I' s1 t1 h1 r q hd (x _ _ _ _ p)⟩
/-- x = e -/
theorem s_set (i : Nat) (h : EvX X W (κ.r δ) e δ I fun d I1 => κ.nx (δ.set i (some d)) I1) {pos' : Pos} (hN : X.N.Nodup := by assumption) (hi : X.N[i]? = some x' := by rfl) (hx : Loc X.env.scope x' := by first | exact Or.inl rfl | exact Or.inr rfl) (hs : swapsWith e (some (.Name x' pos')) pos.line X.env = pure false := by rfl)
    (hf : X.fn x' = true ∨ X.env.scope.names.lookup x' = some .local := by first | exact .inl rfl | exact .inr rfl) : S1 X W (.Assign [.Name x' pos'] e pos) δ I κ := fun σ G H E hE s hI k =>
  PS.wp (ps_set hN hi hx peC hs hf) (h σ G H _ hE s hI (k.kx hE) fun v d G1 H1 I1 s1 t1 h1 r1 p => k.nx _ _ G1 H1 I1 s1 t1 h1 ((hE.mono s1).set r1) p)
theorem s_setP (i : Nat) (h : PV X I e δ d) (q : κ.nx (δ.set i (some d)) I) {pos' : Pos} (hN : X.N.Nodup := by assumption) (hi : X.N[i]? = some x' := by rfl) (hx : Loc X.env.scope x' := by first | exact Or.inl rfl | exact Or.inr rfl) (hs : swapsWith e (some (.Name x' pos')) pos.line X.env = pure false := by rfl)
    (hf : X.fn x' = true ∨ X.env.scope.names.lookup x' = some .local := by first | exact .inl rfl | exact .inr rfl) : S1 X W (.Assign [.Name x' pos'] e pos) δ I κ := s_set i (h W _ _ q) hN hi hx hs hf
theorem s_ret (h : EvX X W (κ.r δ) e δ I κ.rt) : S1 X W (.Return (some e) pos) δ I κ := fun σ G H E hE s hI k => PS.wp (ps_ret peC) (h σ G H _ hE s hI (k.kx hE) k.rt)
theorem s_retP (h : PV X I e δ d) (q : κ.rt d I) : S1 X W (.Return (some e) pos) δ I κ := s_ret (h W _ _ q)
theorem s_retN (q : κ.rt .non I) : S1 X W (.Return none pos) δ I κ := fun σ G H E hE s hI k => PS.wp ps_retN (k.rt .non .non G H I (Same.refl G) s hI rfl q)
theorem s_if (h : EvT X W (κ.r δ) c δ I fun b I1 => if b = true then SX X W sts δ I1 κ else SX X W rest δ I1 κ) : S1 X W (.If c sts rest pos) δ I κ := fun σ G H E hE s hI k =>
  PS.wp (ps_if ptC pssC pssC) (h σ G H _ hE s hI (k.kx hE) fun b G1 H1 I1 s1 t1 h1 p => by
    cases b with
    | true => exact (show SX X W sts δ I1 κ from p) σ G1 H1 E (hE.mono s1) t1 h1 (k.mono s1)
    | false => exact (show SX X W rest δ I1 κ from p) σ G1 H1 E (hE.mono s1) t1 h1 (k.mono s1))
theorem s_ifP {b : Bool} (h : PVT X I c δ b) (h1 : b = true → SX X W sts δ I κ) (h2 : b = false → SX X W rest δ I κ) : S1 X W (.If c sts rest pos) δ I κ := s_if (h W _ _ (by
  cases b with
  | true => exact h1 rfl
  | false => exact h2 rfl))
theorem s_expr (h : EvX X W (κ.r δ) e δ I fun _ I1 => κ.nx δ I1) (hs : swapsWith e none pos.line X.env = pure false := by rfl) : S1 X W (.Expr e pos) δ I κ := fun σ G H E hE s hI k =>
  PS.wp (ps_expr peC hs) (h σ G H _ hE s hI (k.kx hE) fun v d G1 H1 I1 s1 t1 h1 r1 p => k.nx _ _ G1 H1 I1 s1 t1 h1 (hE.mono s1) p)
theorem s_pass (h : κ.nx δ I) : S1 X W (.Pass pos) δ I κ := fun σ G H E hE s hI k => PS.wp ps_pass (k.nx δ σ G H I (Same.refl G) s hI hE h)
theorem s_break (h : κ.bk δ I) : S1 X W (.Break pos) δ I κ := fun σ G H E hE s hI k => PS.wp ps_break (k.bk δ σ G H I (Same.refl G) s hI hE h)
theorem s_continue (h : κ.ct δ I) : S1 X W (.Continue pos) δ I κ := fun σ G H E hE s hI k => PS.wp ps_continue (k.ct δ σ G H I (Same.refl G) s hI hE h)
/-- targets -/
theorem bind_name (i : Nat) {vs : List Nat} {pos' : Pos} (hv : i ∈ vs := by decide) (hN : X.N.Nodup := by assumption) (hi : X.N[i]? = some x' := by rfl) (hx : Loc X.env.scope x' := by first | exact Or.inl rfl | exact Or.inr rfl) (hf : X.fn x' = true ∨ X.env.scope.names.lookup x' = some .local := by first | exact .inl rfl | exact .inr rfl) :
    BindD X (.Name x' pos') d δ (δ.set i (some d)) vs := fun v σ G H Q hE s r q => PG.wp (pg_name hN hi hx hf) (q _ (hE.set r) (wipe_set σ hv))
/-- a for -/
theorem s_for {iter tg : Expr} {body : List Stmt} (po : PassesOwn (model X.prog X.w) X.A X.env X.xe) (h : EvI X W (κ.r δ) tg iter δ I fun ds I1 => ∃ Nv : Nat → DEnv → Iv X.K → Prop, Nv 0 δ I1 ∧
      (∀ i d δ' I', ds[i]? = some d → Nv i δ' I' → ∃ δ'' vs, BindD X tg d δ' δ'' vs ∧ SX X W body δ'' I' { κ with nx := Nv (i + 1), ct := Nv (i + 1), bk := κ.nx }) ∧ ∀ δ' I', Nv ds.length δ' I' → κ.nx δ' I')
    (hc : X.calm = true := by rfl) (hs : ∀ x, foldedSetIterable iter X.env x = pure x := by intro _; rfl) : S1 X W (.For tg iter body [] pos) δ I κ := fun σ G H E hE s hI k =>
  PS.wp (ps_for po hc piC pgC pssC hs) (h σ G H _ hE s hI (k.kx hE) fun J ds G1 H1 I1 s1 t1 h1 wk ⟨Nv, i0, step, fin⟩ => by
    refine ⟨fun i m σ' H' => m = ds.length - i ∧ i ≤ ds.length ∧ ∃ δ' G' I', Same G1 G' ∧ Same G' H' ∧ Hd I' G' H' ∧ EnvR X.K G' δ' σ' ∧ Nv i δ' I', ⟨_, rfl, Nat.zero_le _, δ, G1, I1, Same.refl G1, t1, h1, hE.mono s1, i0⟩, ?_⟩
    rintro i m σ' H' ⟨rfl, hi, δ', G', I', s2, t2, h2, e2, iv⟩
    by_cases hlt : i < ds.length
    · refine .inr ⟨wk.go i G' H' s2 t2 hlt, fun σ3 H3 => ∃ δ3 G3 I3, Same G1 G3 ∧ Same G3 H3 ∧ Hd I3 G3 H3 ∧ EnvR X.K G3 δ3 σ3 ∧ Nv (i + 1) δ3 I3, fun σ3 H3 ⟨δ3, G3, I3, q1, q2, q3, q4, q5⟩ => ⟨ds.length - (i + 1), by omega, rfl, hlt, δ3, G3, I3, q1, q2, q3, q4, q5⟩, fun x H3 hy => ?_⟩
      obtain ⟨G3, s3, t3, h3, _, d, hd, rd⟩ := wk.yld i G' H' I' x H3 s2 t2 h2 hlt hy
      obtain ⟨δ'', vs, bd, bs⟩ := step i d δ' I' hd iv
      refine bd x σ' G3 H3 _ (e2.mono s3) t3 rd fun σ4 e4 _ => ?_
      have s13 : Same G1 G3 := s2.trans s3
      exact bs σ4 G3 H3 _ e4 t3 h3 ⟨fun δ5 σ5 G5 H5 I5 s5 t5 h5 r5 p5 => ⟨δ5, G5, I5, s13.trans s5, t5, h5, r5, p5⟩, k.rt.mono (s1.trans s13), k.nx.mono (s1.trans s13), fun δ5 σ5 G5 H5 I5 s5 t5 h5 r5 p5 => ⟨δ5, G5, I5, s13.trans s5, t5, h5, r5, p5⟩, k.ex.mono (s1.trans s13)⟩
    · have ei : i = ds.length := by omega
      subst ei
      exact .inl ⟨wk.stop G' H' s2 t2, k.nx δ' σ' G' H' I' (s1.trans s2) t2 h2 e2 (fin δ' I' iv)⟩)
/-- a while, by what holds and a measure -/
theorem s_while {body : List Stmt} (po : PassesOwn (model X.prog X.w) X.A X.env X.xe) (Nv : Nat → DEnv → Iv X.K → Prop) (m : Nat) (i0 : Nv m δ I)
    (step : ∀ m δ' I', Nv m δ' I' → EvT X W (κ.r δ') c δ' I' fun b I1 => if b = true then SX X W body δ' I1 { κ with nx := fun δ'' I'' => ∃ m', m' < m ∧ Nv m' δ'' I'', ct := fun δ'' I'' => ∃ m', m' < m ∧ Nv m' δ'' I'', bk := κ.nx } else κ.nx δ' I1) : S1 X W (.While c body [] pos) δ I κ := fun σ G H E hE s hI k =>
  PS.wp (ps_while po ptC pssC) (by
    refine ⟨fun m σ' H' => ∃ δ' G' I', Same G G' ∧ Same G' H' ∧ Hd I' G' H' ∧ EnvR X.K G' δ' σ' ∧ Nv m δ' I', ⟨m, δ, G, I, Same.refl G, s, hI, hE, i0⟩, ?_⟩
    rintro m σ' H' ⟨δ', G', I', s2, t2, h2, e2, iv⟩
    refine step m δ' I' iv σ' G' H' _ e2 t2 h2 ((k.mono s2).kx e2) fun b G3 H3 I3 s3 t3 h3 p => ?_
    cases b with
    | true =>
      have s13 := s2.trans s3
      refine ⟨fun σ5 H5 => ∃ m', m' < m ∧ ∃ δ5 G5 I5, Same G G5 ∧ Same G5 H5 ∧ Hd I5 G5 H5 ∧ EnvR X.K G5 δ5 σ5 ∧ Nv m' δ5 I5, fun σ5 H5 q => q, ?_⟩
      exact (show SX X W body δ' I3 _ from p) σ' G3 H3 _ (e2.mono s3) t3 h3 ⟨fun δ5 σ5 G5 H5 I5 s5 t5 h5 r5 ⟨m', hm, p5⟩ => ⟨m', hm, δ5, G5, I5, s13.trans s5, t5, h5, r5, p5⟩, k.rt.mono s13, k.nx.mono s13, fun δ5 σ5 G5 H5 I5 s5 t5 h5 r5 ⟨m', hm, p5⟩ => ⟨m', hm, δ5, G5, I5, s13.trans s5, t5, h5, r5, p5⟩, k.ex.mono s13⟩
    | false => exact k.nx δ' σ' G3 H3 I3 (s2.trans s3) t3 h3 (e2.mono s3) p)
end
end DL
set_option Elab.async false
set_option linter.all false
set_option maxRecDepth 100000
set_option maxHeartbeats 4000000
namespace DL
open PySem PySem.Spec PyProof.Rows L2

/-! ### what a def does, by data -/
abbrev Spec (K : PySem.W.Frag) := Iv K → List D → (D → Iv K → Prop) → Rx K → Prop
def spD (K : PySem.W.Frag) (S : Spec K) : Sp := fun vs H Q E => ∃ (I : Iv K) (G : Hp) (ds : List D) (P : D → Iv K → Prop) (R : Rx K), Same G H ∧ Hd I G H ∧ Reps K G ds vs ∧ S I ds P R ∧ Kv K Q G P ∧
  ∀ (C dd : Addr) (fs : List (Str × D)) (l : List (Str × V)) (G' H' : Hp) (I' : Iv K), Same G G' → Same G' H' → Hd I' G' H' → FRep K G' fs l → G' dd = some (.xd l) → R C fs I' → E (.ref C) (some dd) H'
/-- a value for good, where C holds -/
def sFn {K : PySem.W.Frag} (C : List D → Prop) (f : List D → D) : Spec K := fun I ds P _ => C ds ∧ P (f ds) I
section
variable {P : Program} {w : World} {K : PySem.W.Frag} {mg : Str → Option Value} {base : Heap} {x qual : Str} {params : Arguments} {body : List Stmt} {scope : Scope} {dvs : List V} {kws : List (Str × V)} {f : Addr} {fd : FuncData}
/-- THE RULE for a def -/
theorem fn_d {N ps : List Str} {k : Nat} {S : Spec K} (F : FunD K x qual params body scope dvs kws f fd) (sc : FnScope N ps scope) (len : ∀ I ds P R, S I ds P R → ds.length = ps.length)
    (h : ∀ (cdv : Value) (A : Around) (outer : List Env) (s : Shared) (H : Hp) (E : XK), Room k (A.deeper (envOfC qual scope s.heap.objs.size f cdv)) →
      Takes (cxOf (L2.CX P w) P w K mg base N qual scope f cdv A outer s H E) (fun cls d _ H => E cls d H) →
      PassesOwn (model P w) (A.deeper (envOfC qual scope s.heap.objs.size f cdv)) (envOfC qual scope s.heap.objs.size f cdv) (cxOf (L2.CX P w) P w K mg base N qual scope f cdv A outer s H E).xe →
      ∀ (I : Iv K) (ds : List D) (Q : D → Iv K → Prop) (R : Rx K), S I ds Q R →
      SX (cxOf (L2.CX P w) P w K mg base N qual scope f cdv A outer s H E) (fun cls d _ H => E cls d H) body (dstart N ds) I { nx := fun _ I' => Q .non I', rt := Q, ex := fun C fs _ I' => R C fs I' }) :
    FnOk P w K mg base (L2.CX P w) (k + 1) f fd ps (spD K S) := by
  refine F.ok sc (fun vs H Q E h => ?_) (fun cdv A outer s H vs Q E hr hq => ?_)
  · obtain ⟨I, G, ds, P', R, _, _, r, hS, _, _⟩ := h
    rw [r.length]
    exact len _ _ _ _ hS
  · obtain ⟨I, G, ds, P', R, sm, hI, r, hS, kv, ke⟩ := hq
    refine ⟨_, pssC, h cdv A outer s H E hr (takes_of rfl rfl rfl rfl) (passes_of rfl) I ds P' R hS _ G H _ (EnvR.start r) sm hI ?_⟩
    exact ⟨fun δ σ G' H' I' s1 s2 h1 _ p => kv .non .non G' H' I' s1 s2 h1 rfl p, kv, fun _ _ _ _ _ _ _ _ _ p => p.elim, fun _ _ _ _ _ _ _ _ _ p => p.elim,
      fun C dd fs l δ σ G' H' I' s1 s2 h1 _ r2 hd p => ke C dd fs l G' H' I' s1 s2 h1 r2 hd p⟩
end
/-! ### calls -/
section
variable {X : Cx} {W : WX} {R : Rx X.K} {e : Expr} {es : List Expr} {δ : DEnv} {I : Iv X.K} {P : D → Iv X.K → Prop} {pos p : Pos} {x : Str} {f : Addr} {fd : FuncData} {ps : List Str} {k : Nat} {S : Spec X.K} {dvs : List V} {dds : List D} {us : List Value} {d : D}
/-- f(e, ..), the defaults fill up -/
theorem ev_callD (tk : Takes X W) (F : FnOk X.prog X.w X.K X.mg X.base (L2.CX X.prog X.w) k f fd ps (spD X.K S)) (hr : Room k X.A) (hm : X.mg x = some (.ref f)) (hk : PySem.W.keepIn X.K (.ref f) = true) (hb : Binds X.K fd ps us) (hd : Vals dvs us) (hdd : ∀ G, Reps X.K G dds dvs)
    (h : EvA X W R (e :: es) δ I fun ds I1 => S I1 (ds ++ dds) P R) (hg : Gl X x := by rfl) (hdb : (x == ("__debug__" : Str)) = false := by decide)
    (he : starEach (e :: es) X.env = (false, eval e X.env) :: starEach es X.env := by rfl) (hpl : (backTo pos (starEach es X.env)).any (·.1) = false := by rfl) : EvX X W R (.Call (.Name x p) (e :: es) [] pos) δ I P := fun σ G H Q hE s hI qx q =>
  PE.wp (pe_callSD F hr hg hm hk hb hd (fun σ => passAt tk σ) paC hdb he hpl) (h σ G H _ hE s hI qx fun vs ds G1 H1 I1 s1 t1 h1 r1 k1 =>
    ⟨I1, G1, ds ++ dds, P, R, t1, h1, r1.append (hdd G1), k1, q.mono s1, fun C dd fs l G' H' I' s2 t2 h2 r2 hx p => qx C dd fs l G' H' I' (s1.trans s2) t2 h2 r2 hx p⟩)
theorem ev_call (tk : Takes X W) (F : FnOk X.prog X.w X.K X.mg X.base (L2.CX X.prog X.w) k f fd ps (spD X.K S)) (hr : Room k X.A) (hm : X.mg x = some (.ref f)) (hk : PySem.W.keepIn X.K (.ref f) = true) (hb : Binds X.K fd ps [])
    (h : EvA X W R (e :: es) δ I fun ds I1 => S I1 ds P R) (hg : Gl X x := by rfl) (hdb : (x == ("__debug__" : Str)) = false := by decide)
    (he : starEach (e :: es) X.env = (false, eval e X.env) :: starEach es X.env := by rfl) (hpl : (backTo pos (starEach es X.env)).any (·.1) = false := by rfl) : EvX X W R (.Call (.Name x p) (e :: es) [] pos) δ I P :=
  ev_callD (dvs := []) (dds := []) tk F hr hm hk hb .nil (fun _ => rfl) (fun σ G H Q hE s hI qx q => h σ G H Q hE s hI qx fun vs ds G' H' I' s1 t1 h1 r1 p => q vs ds G' H' I' s1 t1 h1 r1 (by show S I' (ds ++ []) P R; rw [List.append_nil]; exact p)) hg hdb he hpl
end
/-- what a call of a def that raises nothing may let out here -/
theorem takesF {X : Cx} : Takes X (fun _ _ _ _ => False) := takes0
section
variable {X : Cx} {I : Iv X.K} {e : Expr} {es : List Expr} {δ : DEnv} {pos p : Pos} {x : Str} {f : Addr} {fd : FuncData} {ps : List Str} {k : Nat} {S : Spec X.K} {dvs : List V} {ds dds : List D} {us : List Value} {d : D}
theorem EvX.weak {W : WX} {R : Rx X.K} {P : D → Iv X.K → Prop} (h : EvX X (fun _ _ _ _ => False) (fun _ _ _ => False) e δ I P) : EvX X W R e δ I P := fun σ G H Q hE s hI qx q => h σ G H Q hE s hI (fun _ _ _ _ _ _ _ _ _ _ _ _ z => z.elim) q
/-- a call for good: its value -/
theorem pv_callD (F : FnOk X.prog X.w X.K X.mg X.base (L2.CX X.prog X.w) k f fd ps (spD X.K S)) (hr : Room k X.A) (hm : X.mg x = some (.ref f)) (hk : PySem.W.keepIn X.K (.ref f) = true) (hb : Binds X.K fd ps us) (hd : Vals dvs us) (hdd : ∀ G, Reps X.K G dds dvs)
    (ha : PVA X I (e :: es) δ ds) (hS : ∀ (P : D → Iv X.K → Prop), P d I → S I (ds ++ dds) P (fun _ _ _ => False)) (hg : Gl X x := by rfl) (hdb : (x == ("__debug__" : Str)) = false := by decide)
    (he : starEach (e :: es) X.env = (false, eval e X.env) :: starEach es X.env := by rfl) (hpl : (backTo pos (starEach es X.env)).any (·.1) = false := by rfl) : PV X I (.Call (.Name x p) (e :: es) [] pos) δ d := fun W R P q =>
  EvX.weak (ev_callD takesF F hr hm hk hb hd hdd (ha _ _ _ (hS P q)) hg hdb he hpl)
theorem pv_call (F : FnOk X.prog X.w X.K X.mg X.base (L2.CX X.prog X.w) k f fd ps (spD X.K S)) (hr : Room k X.A) (hm : X.mg x = some (.ref f)) (hk : PySem.W.keepIn X.K (.ref f) = true) (hb : Binds X.K fd ps [])
    (ha : PVA X I (e :: es) δ ds) (hS : ∀ (P : D → Iv X.K → Prop), P d I → S I ds P (fun _ _ _ => False)) (hg : Gl X x := by rfl) (hdb : (x == ("__debug__" : Str)) = false := by decide)
    (he : starEach (e :: es) X.env = (false, eval e X.env) :: starEach es X.env := by rfl) (hpl : (backTo pos (starEach es X.env)).any (·.1) = false := by rfl) : PV X I (.Call (.Name x p) (e :: es) [] pos) δ d := fun W R P q =>
  EvX.weak (ev_call takesF F hr hm hk hb (ha _ _ _ (hS P q)) hg hdb he hpl)
end

/-! ### operations by data -/
section
variable {K : PySem.W.Frag} {I : Iv K} {x y z d : D} {i j : Int}
theorem p2_I0 {g : Int → Int → V} {z : D} (h : ∀ G, Rep K G z (g i j)) : P2 K I (rI0 g) (.int i) (.int j) z := fun P p G H v w Q s hI r1 r2 q => ⟨i, j, r1, r2, q _ z G H I (Same.refl G) s hI (h G) p⟩
theorem p2_I {C : Int → Int → Prop} {g : Int → Int → V} {z : D} (h : ∀ G, Rep K G z (g i j)) (c : C i j) : P2 K I (rI C g) (.int i) (.int j) z := fun P p G H v w Q s hI r1 r2 q => ⟨i, j, r1, r2, c, q _ z G H I (Same.refl G) s hI (h G) p⟩
theorem p2_add : P2 K I (rI0 fun i j => .int (i + j)) (.int i) (.int j) (.int (i + j)) := p2_I0 fun _ => rfl
theorem p2_sub : P2 K I (rI0 fun i j => .int (i - j)) (.int i) (.int j) (.int (i - j)) := p2_I0 fun _ => rfl
theorem p2_mul (h : CMul i j) : P2 K I (rI CMul fun i j => .int (i * j)) (.int i) (.int j) (.int (i * j)) := p2_I (fun _ => rfl) h
theorem p2_fdiv (h : CDivN i j) : P2 K I (rI CDivN fun i j => .int (i.fdiv j)) (.int i) (.int j) (.int (i.fdiv j)) := p2_I (fun _ => rfl) h
theorem p2_mod (h : j ≠ 0) : P2 K I (rI (fun _ j => j ≠ 0) fun i j => .int (i.fmod j)) (.int i) (.int j) (.int (i.fmod j)) := p2_I (fun _ => rfl) h
theorem p2_pow (h : CPow i j) : P2 K I (rI CPow fun i j => .int (i ^ j.toNat)) (.int i) (.int j) (.int (i ^ j.toNat)) := p2_I (fun _ => rfl) h
theorem p2_lt : P2 K I (rI0 fun i j => .bl (decide (i < j))) (.int i) (.int j) (.bl (decide (i < j))) := p2_I0 fun _ => rfl
theorem p2_le : P2 K I (rI0 fun i j => .bl (decide (i ≤ j))) (.int i) (.int j) (.bl (decide (i ≤ j))) := p2_I0 fun _ => rfl
theorem p2_gt : P2 K I (rI0 fun i j => .bl (decide (j < i))) (.int i) (.int j) (.bl (decide (j < i))) := p2_I0 fun _ => rfl
theorem p2_ge : P2 K I (rI0 fun i j => .bl (decide (j ≤ i))) (.int i) (.int j) (.bl (decide (j ≤ i))) := p2_I0 fun _ => rfl
/-- texts -/
def rAddT : R2 := fun x y H Q => ∃ i j, x = .str i ∧ y = .str j ∧ i.length + j.length ≤ sizeLine ∧ Q (.str (i ++ j)) H
/-- plain values -/
def flatD : D → Option V
  | .non => some .non
  | .bl b => some (.bl b)
  | .int i => some (.int i)
  | .str s => some (.str s)
  | .ty n => some (.ty n)
  | _ => none
theorem Rep.flat {G : Hp} {v u : V} : ∀ {d : D}, Rep K G d v → flatD d = some u → v = u
  | .non, r, h => by cases h; exact r
  | .bl _, r, h => by cases h; exact r
  | .int _, r, h => by cases h; exact r
  | .str _, r, h => by cases h; exact r
  | .ty _, r, h => by cases h; exact r
  | .adr _, _, h => by cases h
  | .tup _, _, h => by cases h
  | .lst _, _, h => by cases h
  | .lsf _, _, h => by cases h
  | .tub _, _, h => by cases h
  | .slo _ _, _, h => by cases h
  | .exc _ _ _ _ _, _, h => by cases h
  | .dic _ _, _, h => by cases h
theorem p2_eq {v u : V} {b : Bool} (hx : flatD x = some v) (hy : flatD y = some u) (hs : scal v u = true) (hb : decide (v = u) = b) : P2 K I rEq x y (.bl b) := fun P p G H v' w Q s hI r1 r2 q => by
  rw [r1.flat hx, r2.flat hy]
  exact ⟨hs, by rw [hb]; exact q _ (.bl b) G H I (Same.refl G) s hI rfl p⟩
theorem p2_ne {v u : V} {b : Bool} (hx : flatD x = some v) (hy : flatD y = some u) (hs : scal v u = true) (hb : (!decide (v = u)) = b) : P2 K I rNe x y (.bl b) := fun P p G H v' w Q s hI r1 r2 q => by
  rw [r1.flat hx, r2.flat hy]
  exact ⟨hs, by rw [hb]; exact q _ (.bl b) G H I (Same.refl G) s hI rfl p⟩
theorem eqV_str (s t : Str) : P2 K I rEq (.str s) (.str t) (.bl (decide (s = t))) := p2_eq rfl rfl rfl (by simp)
theorem neV_str (s t : Str) : P2 K I rNe (.str s) (.str t) (.bl (!decide (s = t))) := p2_ne rfl rfl rfl (by simp)
theorem eqV_int (s t : Int) : P2 K I rEq (.int s) (.int t) (.bl (decide (s = t))) := p2_eq rfl rfl rfl (by simp)
theorem neV_int (s t : Int) : P2 K I rNe (.int s) (.int t) (.bl (!decide (s = t))) := p2_ne rfl rfl rfl (by simp)
/-- an item -/
theorem atI_map {α β : Type} (f : α → β) (xs : List α) (i : Int) : atI (xs.map f) i = (atI xs i).map f := by
  unfold atI
  rw [List.length_map]
  cases ixN xs.length i with
  | none => rfl
  | some j => show (xs.map f)[j]? = (xs[j]?).map f; rw [List.getElem?_map]
theorem atI_rep {G : Hp} {ds : List D} {vs : List V} (r : Reps K G ds vs) (h : atI ds i = some d) : ∃ v, atI vs i = some v ∧ Rep K G d v := by
  unfold atI at h ⊢
  rw [r.length]
  cases e : ixN ds.length i with
  | none => rw [e] at h; cases h
  | some j =>
    rw [e] at h
    exact r.get (show ds[j]? = some d from h)
theorem p2_ixL {ds : List D} (h : atI ds i = some d) : P2 K I (rIxL K) (.lst ds) (.int i) d := fun P p G H v w Q s hI ⟨a, vs, e1, e2, e3⟩ r2 q => by
  obtain ⟨u, h1, h2⟩ := atI_rep e3 h
  exact ⟨a, vs, i, u, e1, r2, SqL.of (s _ _ e2), h1, q u d G H I (Same.refl G) s hI h2 p⟩
theorem p2_ixT {ds : List D} (h : atI ds i = some d) : P2 K I (rIxT K) (.tup ds) (.int i) d := fun P p G H v w Q s hI ⟨a, vs, e1, e2, e3⟩ r2 q => by
  obtain ⟨u, h1, h2⟩ := atI_rep e3 h
  exact ⟨a, vs, i, u, e1, r2, sqT_mono s e2, h1, q u d G H I (Same.refl G) s hI h2 p⟩
theorem p2_ixS {z : Str} {c : Nat} (hl : z.length ≤ sizeLine) (h : atI z.cps.toList i = some c) : P2 K I rIxS (.str z) (.int i) (.str ⟨#[c]⟩) := fun P p G H v w Q s hI r1 r2 q =>
  ⟨z, i, c, r1, r2, hl, h, q _ (.str ⟨#[c]⟩) G H I (Same.refl G) s hI rfl p⟩
/-- in a list, a tuple of plain things -/
def flatDs : List D → Option (List V)
  | [] => some []
  | d :: ds => match flatD d, flatDs ds with
    | some v, some vs => some (v :: vs)
    | _, _ => none
theorem Reps.flat {G : Hp} : ∀ {ds : List D} {vs us : List V}, Reps K G ds vs → flatDs ds = some us → vs = us
  | [], vs, us, r, h => by
    have e : ([] : List V) = us := Option.some.inj h
    rw [← e]
    exact r
  | d :: ds, vs, us, ⟨v, r, e1, e2, e3⟩, h => by
    unfold flatDs at h
    cases h1 : flatD d with
    | none => rw [h1] at h; cases h
    | some u =>
      cases h2 : flatDs ds with
      | none => rw [h1, h2] at h; cases h
      | some us' =>
        rw [h1, h2] at h
        have e := Option.some.inj h
        rw [← e, e1, e2.flat h1, Reps.flat e3 h2]
theorem p2_in {ds : List D} {v : V} {us : List V} {neg b : Bool} (hx : flatD x = some v) (hy : flatDs ds = some us) (h1 : flatV v = true) (h2 : us.all flatV = true) (hb : (if neg then !inV v us else inV v us) = b) (hc : y = .lst ds ∨ y = .tup ds) : P2 K I (rIn K neg) x y (.bl b) := fun P p G H v' w Q s hI r1 r2 q => by
  have e1 := r1.flat hx
  subst e1
  have r3 : ∃ a, w = .ref a ∧ (SqL K G a us ∨ SqT K G a us) := by
    rcases hc with e | e
    · subst e
      obtain ⟨a, vs, e1, e2, e3⟩ := r2
      rw [e3.flat hy] at e2
      exact ⟨a, e1, .inl (SqL.of e2)⟩
    · subst e
      obtain ⟨a, vs, e1, e2, e3⟩ := r2
      rw [e3.flat hy] at e2
      exact ⟨a, e1, .inr e2⟩
  obtain ⟨a, ea, sq⟩ := r3
  exact ⟨a, us, ea, sq.elim (fun z => .inl (sqL_mono s z)) (fun z => .inr (sqT_mono s z)), h1, h2, by rw [hb]; exact q _ (.bl b) G H I (Same.refl G) s hI rfl p⟩
/-- calls -/
theorem pn_int : PN K I (fun xs H Q => (∃ i, xs = [.int i] ∧ Q (.int i) H) ∨ ∃ k, xs = [.bl k] ∧ Q (.int (if k then 1 else 0)) H) [.int i] (.int i) := fun P p G H vs Q s hI ⟨v, r, e1, e2, e3⟩ q =>
  .inl ⟨i, by rw [e1, show v = .int i from e2, show r = [] from e3], q _ (.int i) G H I (Same.refl G) s hI rfl p⟩
theorem pn_intB {k : Bool} : PN K I (fun xs H Q => (∃ i, xs = [.int i] ∧ Q (.int i) H) ∨ ∃ k, xs = [.bl k] ∧ Q (.int (if k then 1 else 0)) H) [.bl k] (.int (if k then 1 else 0)) := fun P p G H vs Q s hI ⟨v, r, e1, e2, e3⟩ q =>
  .inr ⟨k, by rw [e1, show v = .bl k from e2, show r = [] from e3], q _ (.int (if k then 1 else 0)) G H I (Same.refl G) s hI rfl p⟩
theorem pn_max2 : PN K I (fun xs H Q => ∃ i j, xs = [.int i, .int j] ∧ Q (.int (if j > i then j else i)) H) [.int i, .int j] (.int (if j > i then j else i)) := fun P p G H vs Q s hI ⟨v, r, e1, e2, v2, r2, e3, e4, e5⟩ q =>
  ⟨i, j, by rw [e1, e3, show v = .int i from e2, show v2 = .int j from e4, show r2 = [] from e5], q _ (.int (if j > i then j else i)) G H I (Same.refl G) s hI rfl p⟩
theorem pn_lenL {ds : List D} : PN K I (fun xs H Q => ∃ p ys, xs = [.ref p] ∧ (SqL K H p ys ∨ SqT K H p ys) ∧ Q (.int ys.length) H) [.lst ds] (.int ds.length) := fun P p G H vs Q s hI ⟨v, r, e1, ⟨a, ws, e2, e3, e4⟩, e5⟩ q =>
  ⟨a, ws, by rw [e1, e2, show r = [] from e5], .inl (SqL.of (s _ _ e3)), by rw [e4.length]; exact q _ (.int ds.length) G H I (Same.refl G) s hI rfl p⟩
theorem pn_lenT {ds : List D} : PN K I (fun xs H Q => ∃ p ys, xs = [.ref p] ∧ (SqL K H p ys ∨ SqT K H p ys) ∧ Q (.int ys.length) H) [.tup ds] (.int ds.length) := fun P p G H vs Q s hI ⟨v, r, e1, ⟨a, ws, e2, e3, e4⟩, e5⟩ q =>
  ⟨a, ws, by rw [e1, e2, show r = [] from e5], .inr (sqT_mono s e3), by rw [e4.length]; exact q _ (.int ds.length) G H I (Same.refl G) s hI rfl p⟩
theorem pn_all {bs : List Bool} : PN K I (rAll K) [.lst (bs.map D.bl)] (.bl (bs.all id)) := fun P p G H vs Q s hI ⟨v, r, e1, ⟨a, ws, e2, e3, e4⟩, e5⟩ q => by
  have e6 : ∀ {bs : List Bool} {ws : List V}, Reps K G (bs.map D.bl) ws → ws = bs.map V.bl := by
    intro bs
    induction bs with
    | nil => intro ws h; exact h
    | cons b bs ih =>
      intro ws ⟨v, r, h1, h2, h3⟩
      rw [h1, show v = .bl b from h2, ih h3]
      rfl
  refine ⟨a, bs, by rw [e1, e2, show r = [] from e5], ?_, q _ (.bl (bs.all id)) G H I (Same.refl G) s hI rfl p⟩
  rw [e6 e4] at e3
  exact SqL.of (s _ _ e3)
/-- the type of a value -/
def tyD : D → Option String
  | .non => some "NoneType"
  | .bl _ => some "bool"
  | .int _ => some "int"
  | .str _ => some "str"
  | .tup _ => some "tuple"
  | .lst _ => some "list"
  | .lsf _ => some "list"
  | .dic _ _ => some "dict"
  | _ => none
theorem tyX_of {G H : Hp} {v : V} {t : String} (s : Same G H) : ∀ {d : D}, Rep K G d v → tyD d = some t → TyX K H v (.type t)
  | .non, r, h => by cases h; rw [show v = .non from r]; exact .base .non
  | .bl _, r, h => by cases h; rw [show v = .bl _ from r]; exact .base (.bl _)
  | .int _, r, h => by cases h; rw [show v = .int _ from r]; exact .base (.int _)
  | .str _, r, h => by cases h; rw [show v = .str _ from r]; exact .base (.str _)
  | .ty _, _, h => by cases h
  | .adr _, _, h => by cases h
  | .slo _ _, _, h => by cases h
  | .tub _, _, h => by cases h
  | .exc _ _ _ _ _, _, h => by cases h
  | .dic _ _, ⟨a, od, vs, e1, e2, _, _⟩, h => by
    cases h
    rw [e1]
    exact .fDict (s _ _ e2)
  | .tup _, ⟨a, vs, e1, e2, _⟩, h => by
    cases h
    rw [e1]
    rcases e2 with (e2 | ⟨o, e2⟩) | ⟨o, its, n, e2, e3, _⟩
    · exact .base (.tup (s _ _ e2))
    · exact .fTuple (s _ _ e2)
    · exact .kTuple e2 e3
  | .lst _, ⟨a, vs, e1, e2, _⟩, h => by
    cases h
    rw [e1]
    exact .base (.lst (s _ _ e2))
  | .lsf _, ⟨a, vs, e1, e2, _⟩, h => by
    cases h
    rw [e1]
    rcases e2 with (e2 | ⟨o, e2⟩) | ⟨o, its, n, e2, e3, _⟩
    · exact .base (.lst (s _ _ e2))
    · exact .base (.frz (s _ _ e2))
    · exact .kList e2 e3
theorem pn_isi {t u : String} {b : Bool} (h : tyD d = some t) (hb : kitB t u = some b := by decide +kernel) : PN K I (rIsi K) [d, .ty u] (.bl b) := fun P p G H vs Q s hI ⟨v, r, e1, e2, v2, r2, e3, e4, e5⟩ q =>
  ⟨v, .ty u, .type t, .type u, b, by rw [e1, e3, show v2 = .ty u from e4, show r2 = [] from e5], .ty u, tyX_of s e2 h, kit_ty hb, q _ (.bl b) G H I (Same.refl G) s hI rfl p⟩
end
end DL
set_option Elab.async false
set_option linter.all false
set_option maxRecDepth 100000
set_option maxHeartbeats 4000000
namespace DL
open PySem PySem.Spec PyProof.Rows L2

/-! ### texts -/
def rMulT : R2 := fun x y H Q => ∃ (z : Str) (n : Int), x = .str z ∧ y = .int n ∧ MulOk z n ∧ Q (.str (Txt.mul z n)) H
theorem op_mulT {X : Cx} : OpR X (binaryOp .Mult) rMulT := fun pins s σ H x y v u Q I rx ry ⟨z, n, ex, ey, ok, q⟩ => by
  subst ex ey
  obtain ⟨t, rfl⟩ := rx
  obtain ⟨t', rfl⟩ := ry
  exact SB.mul ok fun t1 k1 => ⟨.str (Txt.mul z n), H, I.tok _, ⟨_, rfl⟩, q⟩
def rAddS' : R2 := fun x y H Q => ∃ i j, x = .str i ∧ y = .str j ∧ i.length + j.length ≤ sizeLine ∧ Q (.str (i ++ j)) H
theorem op_addT {X : Cx} : OpR X (binaryOp .Add) rAddS' := op_add_str
def rSignIn : R2 := fun x y H Q => ∃ (c : Nat) (z : Str), x = .str ⟨#[c]⟩ ∧ y = .str z ∧ Q (.bl (decide (c ∈ z.cps.toList))) H
theorem op_signIn {X : Cx} : OpR X (compareOp .In) rSignIn := op_in_sign
section
variable {K : PySem.W.Frag} {I : Iv K} {x y z d : D} {i j : Int}
theorem p2_mulT {s : Str} {n : Int} (h : MulOk s n) : P2 K I rMulT (.str s) (.int n) (.str (Txt.mul s n)) := fun P p G H v w Q sm hI r1 r2 q => ⟨s, n, r1, r2, h, q _ (.str (Txt.mul s n)) G H I (Same.refl G) sm hI rfl p⟩
theorem p2_addT {s t : Str} (h : s.length + t.length ≤ 100000) : P2 K I rAddS' (.str s) (.str t) (.str (s ++ t)) := fun P p G H v w Q sm hI r1 r2 q => ⟨s, t, r1, r2, by rw [sizeLine_eq]; omega, q _ (.str (s ++ t)) G H I (Same.refl G) sm hI rfl p⟩
theorem p2_signIn {c : Nat} {s : Str} : P2 K I rSignIn (.str ⟨#[c]⟩) (.str s) (.bl (decide (c ∈ s.cps.toList))) := fun P p G H v w Q sm hI r1 r2 q => ⟨c, s, r1, r2, q _ (.bl (decide (c ∈ s.cps.toList))) G H I (Same.refl G) sm hI rfl p⟩
theorem pn_lenS {s : Str} (h : s.length ≤ 100000) : PN K I (fun xs H Q => ∃ z, xs = [.str z] ∧ z.length ≤ sizeLine ∧ Q (.int z.length) H) [.str s] (.int s.length) := fun P p G H vs Q sm hI ⟨v, r, e1, e2, e5⟩ q =>
  ⟨s, by rw [e1, show v = .str s from e2, show r = [] from e5], by rw [sizeLine_eq]; omega, q _ (.int s.length) G H I (Same.refl G) sm hI rfl p⟩
theorem p2_isN {b : Bool} {v : V} (hx : flatD x = some v) (hb : decide (v = .non) = b) : P2 K I (fun x y H Q => y = .non ∧ Q (.bl (decide (x = .non))) H) x .non (.bl b) := fun P p G H v' w Q s hI r1 r2 q => by
  rw [r1.flat hx]
  exact ⟨r2, by rw [hb]; exact q _ (.bl b) G H I (Same.refl G) s hI rfl p⟩
theorem p2_notN {b : Bool} {v : V} (hx : flatD x = some v) (hb : (!decide (v = .non)) = b) : P2 K I (fun x y H Q => y = .non ∧ Q (.bl (!decide (x = .non))) H) x .non (.bl b) := fun P p G H v' w Q s hI r1 r2 q => by
  rw [r1.flat hx]
  exact ⟨r2, by rw [hb]; exact q _ (.bl b) G H I (Same.refl G) s hI rfl p⟩
end
section
variable {X : Cx} {W : WX} {R : Rx X.K} {a b e o tg iter : Expr} {es : List Expr} {δ : DEnv} {I : Iv X.K} {P : D → Iv X.K → Prop} {pos p apos : Pos} {x : Str} {d z : D}
/-- sep.join(list of texts) -/
theorem repsStr {K : PySem.W.Frag} {G : Hp} : ∀ {ss : List Str} {vs : List V}, Reps K G (ss.map D.str) vs → vs = ss.map V.str
  | [], vs, h => h
  | s :: ss, vs, ⟨v, r, e1, e2, e3⟩ => by rw [e1, show v = .str s from e2, repsStr e3]; rfl
theorem ev_join {sep : Str} (ho : PV X I o δ (.str sep)) (h : EvX X W R e δ I fun d I1 => ∃ ss : List Str, d = .lst (ss.map D.str) ∧ (ss.map (·.length)).sum + ss.length * sep.length ≤ 16777216 ∧ P (.str (Txt.join sep ss)) I1)
    (hs : starEach [e] X.env = [(false, eval e X.env)] := by rfl) (hbase : attributeBase o "join" X.env (eval o X.env) = eval o X.env := by rfl) (hline : (apos.endLine == pos.line) = true := by rfl) : EvX X W R (.Call (.Attribute o "join" apos) [e] [] pos) δ I P := fun σ G H Q hE s hI qx q =>
  PE.wp (pe_join peC peC hs hbase hline) (ho W R (fun z I1 => z = .str sep ∧ I1 = I) ⟨rfl, rfl⟩ σ G H _ hE s hI qx fun v d G1 H1 I1 s1 t1 h1 r1 ⟨ed, ei⟩ => by
    subst ed ei
    obtain rfl : v = .str sep := r1
    refine ⟨⟨sep, rfl⟩, h σ G1 H1 _ (hE.mono s1) t1 h1 (qx.mono s1) fun w d2 G2 H2 I2 s2 t2 h2 r2 ⟨ss, e2, hz, p2⟩ => ?_⟩
    subst e2
    obtain ⟨a, vs, e3, e4, e5⟩ := r2
    have e6 := repsStr e5
    subst e6
    exact ⟨sep, a, ss, rfl, by rw [e3], .inl (SqL.of (t2 _ _ e4)), hz, q _ (.str (Txt.join sep ss)) G2 H2 I2 (s1.trans s2) t2 h2 rfl p2⟩)
/-! ### what is walked -/
theorem walk_dL {K : PySem.W.Frag} {a : Addr} {ds : List D} {vs : List V} {G : Hp} (h : SqL K G a vs) (r : Reps K G ds vs) : WalkD K (Itl K a) ds G := by
  have hl := r.length
  refine ⟨fun i G' H' s1 s2 hi => (walk_list (K := K) (a := a) (xs := vs)).goes i H' (by omega) (sqL_mono (s1.trans s2) h), fun G' H' s1 s2 => by rw [← hl]; exact walk_list.stops H' (sqL_mono (s1.trans s2) h), fun i G' H' I x H'' s1 s2 hI hi y => ?_⟩
  obtain ⟨eH, ex⟩ := (walk_list (K := K) (a := a) (xs := vs)).yields i H' x H'' (by omega) (sqL_mono (s1.trans s2) h) y
  subst eH
  obtain ⟨d, hd⟩ : ∃ d, ds[i]? = some d := ⟨ds[i], by simp [hi]⟩
  obtain ⟨v, h1, h2⟩ := r.get hd
  rw [ex] at h1
  cases h1
  exact ⟨G', Same.refl _, s2, hI, fun _ _ z => z, d, hd, h2.mono s1⟩
theorem walk_dT {K : PySem.W.Frag} {a : Addr} {ds : List D} {vs : List V} {G : Hp} (h : SqT K G a vs) (r : Reps K G ds vs) : WalkD K (Itt K a) ds G := by
  have hl := r.length
  refine ⟨fun i G' H' s1 s2 hi => (walk_tup (K := K) (a := a) (xs := vs)).goes i H' (by omega) (sqT_mono (s1.trans s2) h), fun G' H' s1 s2 => by rw [← hl]; exact walk_tup.stops H' (sqT_mono (s1.trans s2) h), fun i G' H' I x H'' s1 s2 hI hi y => ?_⟩
  obtain ⟨eH, ex⟩ := (walk_tup (K := K) (a := a) (xs := vs)).yields i H' x H'' (by omega) (sqT_mono (s1.trans s2) h) y
  subst eH
  obtain ⟨d, hd⟩ : ∃ d, ds[i]? = some d := ⟨ds[i], by simp [hi]⟩
  obtain ⟨v, h1, h2⟩ := r.get hd
  rw [ex] at h1
  cases h1
  exact ⟨G', Same.refl _, s2, hI, fun _ _ z => z, d, hd, h2.mono s1⟩
theorem ei_lst (h : EvX X W R iter δ I fun d I1 => ∃ ds, (d = .lst ds ∨ d = .lsf ds) ∧ PP ds I1) : EvI X W R tg iter δ I PP := fun σ G H RR hE s hI qx q =>
  PI.wp (pi_list peC) (h σ G H _ hE s hI qx fun v d G1 H1 I1 s1 t1 h1 r1 ⟨ds, ed, pp⟩ => by
    have k : ∃ a vs, v = .ref a ∧ SqL X.K G1 a vs ∧ Reps X.K G1 ds vs := by
      rcases ed with e | e
      · subst e
        obtain ⟨a, vs, e1, e2, e3⟩ := r1
        exact ⟨a, vs, e1, SqL.of e2, e3⟩
      · subst e
        exact r1
    obtain ⟨a, vs, e1, e2, e3⟩ := k
    exact ⟨a, e1, ⟨vs, sqL_mono t1 e2⟩, q _ ds G1 H1 I1 s1 t1 h1 (walk_dL e2 e3) pp⟩)
theorem ei_tup (h : EvX X W R iter δ I fun d I1 => ∃ ds, d = .tup ds ∧ PP ds I1) : EvI X W R tg iter δ I PP := fun σ G H RR hE s hI qx q =>
  PI.wp (pi_tup peC) (h σ G H _ hE s hI qx fun v d G1 H1 I1 s1 t1 h1 r1 ⟨ds, ed, pp⟩ => by
    subst ed
    obtain ⟨a, vs, e1, e2, e3⟩ := r1
    exact ⟨a, e1, ⟨vs, sqT_mono t1 e2⟩, q _ ds G1 H1 I1 s1 t1 h1 (walk_dT e2 e3) pp⟩)
theorem ei_str (h : EvX X W R iter δ I fun d I1 => ∃ w : Str, d = .str w ∧ PP (w.cps.toList.map fun c => D.str ⟨#[c]⟩) I1) : EvI X W R tg iter δ I PP := fun σ G H RR hE s hI qx q =>
  PI.wp (pi_str peC) (h σ G H _ hE s hI qx fun v d G1 H1 I1 s1 t1 h1 r1 ⟨w, ed, pp⟩ => by
    subst ed
    refine ⟨w, r1, q _ _ G1 H1 I1 s1 t1 h1 ⟨fun i G' H' _ _ hi => walk_str.goes i H' (by simpa using hi) trivial, fun G' H' _ _ => by rw [List.length_map, Array.length_toList]; exact walk_str.stops H' trivial, fun i G' H' I x H'' s1 s2 hI hi y => ?_⟩ pp⟩
    obtain ⟨eH, c, ec, ex⟩ := (walk_str (z := w)).yields i H' x H'' (by simpa using hi) trivial y
    subst eH ex
    exact ⟨G', Same.refl _, s2, hI, fun _ _ z => z, .str ⟨#[c]⟩, by rw [List.getElem?_map, Array.getElem?_toList, ec]; rfl, rfl⟩)
def intsFrom (lo : Int) (n : Nat) : List D := (List.range n).map fun i => D.int (lo + (i : Nat))
theorem walk_dR {K : PySem.W.Frag} {lo : Int} {n : Nat} {G : Hp} : WalkD K (Itr lo n) (intsFrom lo n) G := by
  have hl : (intsFrom lo n).length = n := by unfold intsFrom; simp
  refine ⟨fun i G' H' _ _ hi => walk_range.goes i H' (by omega) trivial, fun G' H' _ _ => by rw [hl]; exact walk_range.stops H' trivial, fun i G' H' I x H'' s1 s2 hI hi y => ?_⟩
  obtain ⟨eH, ex⟩ := (walk_range (lo := lo) (n := n)).yields i H' x H'' (by omega) trivial y
  subst eH ex
  exact ⟨G', Same.refl _, s2, hI, fun _ _ z => z, .int (lo + (i : Nat)), by unfold intsFrom; rw [List.getElem?_map, List.getElem?_range (by omega)]; rfl, rfl⟩
theorem ei_range1 (hm : X.mg "range" = none) (h : EvX X W R a δ I fun d I1 => ∃ n : Int, d = .int n ∧ n < 1000000 ∧ -1000000 < n ∧ PP (intsFrom 0 n.toNat) I1) (hg : Gl X "range" := by rfl) (hst : starEach [a] X.env = [(false, eval a X.env)] := by rfl) (hpl : (backTo pos (starEach [] X.env)).any (·.1) = false := by rfl) : EvI X W R tg (.Call (.Name "range" p) [a] [] pos) δ I PP := fun σ G H RR hE s hI qx q =>
  PI.wp (pi_range1 hg hm (pa_cons peC pa_nil hst) (hs := hst)) (h σ G H _ hE s hI qx fun v d G1 H1 I1 s1 t1 h1 r1 ⟨n, ed, b1, b2, pp⟩ => by
    subst ed
    exact ⟨n, by rw [show v = .int n from r1], by omega, by omega, q _ _ G1 H1 I1 s1 t1 h1 walk_dR pp⟩)
theorem ei_range2 (hm : X.mg "range" = none) (h : EvX X W R a δ I fun d I1 => EvX X W R b δ I1 fun d2 I2 => ∃ n m : Int, d = .int n ∧ d2 = .int m ∧ (n < 1000000 ∧ -1000000 < n ∧ m < 1000000 ∧ -1000000 < m) ∧ PP (intsFrom n (m - n).toNat) I2) (hg : Gl X "range" := by rfl) (hst : starEach [a, b] X.env = [(false, eval a X.env), (false, eval b X.env)] := by rfl) (hst2 : starEach [b] X.env = [(false, eval b X.env)] := by rfl) (hpl : (backTo pos (starEach [b] X.env)).any (·.1) = false := by rfl) : EvI X W R tg (.Call (.Name "range" p) [a, b] [] pos) δ I PP := fun σ G H RR hE s hI qx q =>
  PI.wp (pi_range2 hg hm (pa_cons peC (pa_cons peC pa_nil hst2) (by rw [hst, hst2])) (hs := hst) (hs2 := hst2)) (h σ G H _ hE s hI qx fun v d G1 H1 I1 s1 t1 h1 r1 k => k σ G1 H1 _ (hE.mono s1) t1 h1 (qx.mono s1) fun v2 d2 G2 H2 I2 s2 t2 h2 r2 ⟨n, m, ed, ed2, b1, pp⟩ => by
    subst ed ed2
    exact ⟨n, m, by rw [show v = .int n from r1, show v2 = .int m from r2], by omega, q _ _ G2 H2 I2 (s1.trans s2) t2 h2 walk_dR pp⟩)
theorem vi_lst {ds : List D} (h : PV X I iter δ (.lst ds)) : PVI X I tg iter δ ds := fun W R P p => ei_lst (h W R _ ⟨ds, .inl rfl, p⟩)
theorem vi_lsf {ds : List D} (h : PV X I iter δ (.lsf ds)) : PVI X I tg iter δ ds := fun W R P p => ei_lst (h W R _ ⟨ds, .inr rfl, p⟩)
theorem vi_tup {ds : List D} (h : PV X I iter δ (.tup ds)) : PVI X I tg iter δ ds := fun W R P p => ei_tup (h W R _ ⟨ds, rfl, p⟩)
theorem vi_str {w : Str} (h : PV X I iter δ (.str w)) : PVI X I tg iter δ (w.cps.toList.map fun c => D.str ⟨#[c]⟩) := fun W R P p => ei_str (h W R _ ⟨w, rfl, p⟩)
/-! ### comprehensions -/
/-- the tests of a comprehension -/
structure wpTs (X : Cx) (ifs : List Expr) (σ : L2.St) (H : Hp) (Q : Bool → Hp → Prop) : Prop where
  run : ∀ (pins : List (Addr × Obj)) (s : Shared), Inv X pins σ H s → wpAny (model X.prog X.w) X.A (forIn ifs true fun c r => if r = true then do let ok ← isTrue c X.env (eval c X.env); pure (ForInStep.yield ok) else pure (ForInStep.yield r)) (TP X pins σ Q) X.xe s
def EvTs (X : Cx) (W : WX) (R : Rx X.K) (ifs : List Expr) (δ : DEnv) (I : Iv X.K) (P : Bool → Iv X.K → Prop) : Prop := ∀ (σ : L2.St) (G H : Hp) (Q : Bool → Hp → Prop), EnvR X.K G δ σ → Same G H → Hd I G H → Kx X.K W σ G R → Kb X.K Q G P → wpTs X ifs σ H Q
theorem ets_nil {PB : Bool → Iv X.K → Prop} (p : PB true I) : EvTs X W R [] δ I PB := fun σ G H Q hE s hI qx q => ⟨fun pins s1 J => pts_nil.run pins s1 σ H Q J (q true G H I (Same.refl G) s hI p)⟩
theorem ets_one {c : Expr} {PB : Bool → Iv X.K → Prop} (h : EvT X W R c δ I PB) : EvTs X W R [c] δ I PB := fun σ G H Q hE s hI qx q => ⟨fun pins s1 J => (pts_one ptC).run pins s1 σ H Q J (h σ G H Q hE s hI qx q)⟩
abbrev W0 : WX := fun _ _ _ _ => False
abbrev R0 {K : PySem.W.Frag} : Rx K := fun _ _ _ => False
theorem kx0 {K : PySem.W.Frag} {σ : L2.St} {G : Hp} : Kx K W0 σ G R0 := fun _ _ _ _ _ _ _ _ _ _ _ _ z => z.elim
theorem ev_lc {elt : Expr} {ifs : List Expr} {scope : Scope} (own : List (Str × Nat)) (hN : X.N.Nodup) (ok : BlkOk X.N X.env.scope scope own)
    (h : EvI X W R tg iter δ I fun ds I1 => ds.length ≤ 1000000 ∧ ∃ (Nv : Nat → List D → Prop) (δ' : D → DEnv), Nv 0 [] ∧ (∀ i d ys, ds[i]? = some d → Nv i ys → ∃ T : Bool → Prop, (∀ (J : Iv X.K) (s : Shared) (H : Hp) (C : Addr) (cl : List (Str × Addr)) (fp : List Addr),
        BindD (X.blk s H scope (compEnvC scope cl C X.env) fp) tg d (wipeD δ (own.map (·.2))) (δ' d) (own.map (·.2)) ∧
        EvTs (X.blk s H scope (compEnvC scope cl C X.env) fp) W0 R0 ifs (δ' d) (I1.and J) fun b I2 => I2 = I1.and J ∧ T b) ∧
        (T true → ∀ (J : Iv X.K) (s : Shared) (H : Hp) (C : Addr) (cl : List (Str × Addr)) (fp : List Addr), EvX (X.blk s H scope (compEnvC scope cl C X.env) fp) W0 R0 elt (δ' d) (I1.and J) fun y I3 => I3 = I1.and J ∧ Nv (i + 1) (ys ++ [y])) ∧ (T false → Nv (i + 1) ys)) ∧
      ∀ ys, Nv ds.length ys → P (.lst ys) I1)
    (hc : X.calm = true := by rfl) (hs : ∀ x, foldedSetIterable iter X.env x = pure x := by intro _; rfl) : EvX X W R (.ListComp elt [⟨tg, iter, ifs, 0⟩] scope pos) δ I P := fun σ G H Q hE s hI qx q => by
  refine PE.wp (pe_lc (wi := wpI X tg iter) (g := fun v σ H Q => ∀ s0 H0 C cl fp, wpG (X.blk s0 H0 scope (compEnvC scope cl C X.env) fp) tg v σ H Q) (tt := fun σ H Q => ∀ s0 H0 C cl fp, wpTs (X.blk s0 H0 scope (compEnvC scope cl C X.env) fp) ifs σ H Q)
    (te := fun σ H Q => ∀ s0 H0 C cl fp, wpE (X.blk s0 H0 scope (compEnvC scope cl C X.env) fp) elt σ H Q) hc hN piC ok
    (fun s0 H0 C cl fp => ⟨fun pins s σ H v u Q J r k => (k s0 H0 C cl fp).run pins s u J r⟩) (fun s0 H0 C cl fp => ⟨fun pins s σ H Q J k => (k s0 H0 C cl fp).run pins s J⟩) (fun s0 H0 C cl fp => ⟨fun pins s σ H Q J k => (k s0 H0 C cl fp).run pins s J⟩) hs) ?_
  refine h σ G H _ hE s hI qx fun J ds G1 H1 I1 s1 t1 h1 wk ⟨hz, Nv, δ', n0, step, fin⟩ D hD => ?_
  have gD : G1 D = none := t1.free hD
  have apart : ∀ a, ¬ (I1.F a ∧ a = D) := fun a ha => h1.dom ha.1 (by rw [ha.2]; exact hD)
  refine ⟨fun i m H' => m = ds.length - i ∧ i ≤ ds.length ∧ ∃ ys G', Nv i ys ∧ ys.length ≤ i ∧ Same G1 G' ∧ Same G' H' ∧ Hd (I1.and (iLst X.K D ys)) G' H', ⟨_, rfl, Nat.zero_le _, [], G1, n0, Nat.le_refl _, Same.refl _, same_upd t1 gD, ?_⟩, ?_⟩
  · exact Hd.mk2 (h1.newp hD) ⟨⟨_, upd_same, [], rfl, rfl⟩, fun a ha => by rw [show a = D from ha]; exact gD⟩ apart
  · rintro i m H' ⟨rfl, hi, ys, G', nv, hy, s2, t2, hd2⟩
    by_cases hlt : i < ds.length
    · refine .inr ⟨wk.go i G' H' s2 t2 hlt, fun H3 => ∃ ys3 G3, Nv (i + 1) ys3 ∧ ys3.length ≤ i + 1 ∧ Same G1 G3 ∧ Same G3 H3 ∧ Hd (I1.and (iLst X.K D ys3)) G3 H3, fun H3 ⟨ys3, G3, q1, q2, q3, q4, q5⟩ => ⟨ds.length - (i + 1), by omega, rfl, hlt, ys3, G3, q1, q2, q3, q4, q5⟩, fun x H3 hyl => ?_⟩
      obtain ⟨G3, s3, t3, h3, _, d, hd, rd⟩ := wk.yld i G' H' _ x H3 s2 t2 hd2 hlt hyl
      obtain ⟨T, stA, stB, stC⟩ := step i d ys hd nv
      intro s0 H0 C cl fp
      refine (stA (iLst X.K D ys) s0 H0 C cl fp).1 x _ G3 H3 _ (((hE.mono s1).mono (s2.trans s3)).wipe _) t3 rd fun σ4 e4 ew => ⟨by rw [ew, wipe_wipe], ?_⟩
      intro s0 H0 C cl fp
      refine (stA (iLst X.K D ys) s0 H0 C cl fp).2 σ4 G3 H3 _ e4 t3 h3 kx0 fun b G4 H4 I4 s4 t4 h4 ⟨eI, pb⟩ => ?_
      subst eI
      cases b with
      | false => exact ⟨ys, G4, stC pb, by omega, (s2.trans s3).trans s4, t4, h4⟩
      | true =>
        intro s0 H0 C cl fp
        refine stB pb (iLst X.K D ys) s0 H0 C cl fp σ4 G4 H4 _ (e4.mono s4) t4 h4 kx0 fun y dy G5 H5 I5 s5 t5 h5 r5 ⟨eI, nv5⟩ => ?_
        subst eI
        obtain ⟨o, ho, vs, ev, rv⟩ := h5.right.ph
        subst ev
        have g5 : G5 D = none := h5.right.fr D rfl
        refine ⟨vs, ho, ?_, ys ++ [dy], G5, nv5, by simp; omega, ((s2.trans s3).trans s4).trans s5, same_upd t5 g5, ?_⟩
        · rw [rv.length, sizeLine_eq]; omega
        · refine Hd.mk2 (h5.left.chg fun hf => apart D ⟨hf, rfl⟩) ⟨⟨_, upd_same, _, rfl, rv.append (Reps.one r5)⟩, h5.right.fr⟩ apart
    · have ei : i = ds.length := by omega
      subst ei
      obtain ⟨o, ho, vs, ev, rv⟩ := hd2.right.ph
      subst ev
      have g5 : G' D = none := hd2.right.fr D rfl
      refine .inl ⟨wk.stop G' H' s2 t2, q (.ref D) (.lst ys) (upd G' D (.lst vs)) H' I1 ((s1.trans s2).trans (Evl.Ex.new g5)) (same_freeze t2 ho) ?_ ⟨D, vs, rfl, upd_same, rv.mono (Evl.Ex.new g5)⟩ (fin ys nv)⟩
      exact ⟨I1.loc G' _ H' H' (Evl.Ex.new g5) (fun _ _ => rfl) hd2.left.ph, fun a ha => by rw [upd_ne fun e => apart a ⟨ha, e⟩]; exact hd2.left.fr a ha⟩
end
end DL
set_option Elab.async false
set_option linter.all false
set_option maxRecDepth 100000
set_option maxHeartbeats 4000000
namespace DL
open PySem PySem.Spec PyProof.Rows L2

/-! ### lists that may change -/
section
variable {K : PySem.W.Frag} {G H : Hp} {p : Addr} {ds : List D} {c : Rc K}
theorem Hd.lst (h : Hd (c.fill (iLst K p ds)) G H) : ∃ vs, H p = some (.lst vs) ∧ Reps K G ds vs ∧ G p = none := by
  have q := h.inner
  obtain ⟨o, ho, vs, ev, r⟩ := q.ph
  subst ev
  exact ⟨vs, ho, r, q.fr p rfl⟩
theorem Hd.lstSet {es : List D} {ws : List V} (h : Hd (c.fill (iLst K p ds)) G H) (r : Reps K G es ws) : Hd (c.fill (iLst K p es)) G (upd H p (.lst ws)) :=
  Hd.change (I := iLst K p ds) (I' := iLst K p es) (fun _ => Iff.rfl) (fun a ha => upd_ne ha) ⟨⟨_, upd_same, ws, rfl, r⟩, h.inner.fr⟩ h
end
section
variable {X : Cx} {W : WX} {R : Rx X.K} {a b e o : Expr} {es : List Expr} {δ : DEnv} {I : Iv X.K} {P : D → Iv X.K → Prop} {pos q' : Pos} {x : Str} {d z : D} {p : Addr} {ds : List D} {i : Int} {κ : Ko X.K}
theorem p2_ixM {K : PySem.W.Frag} {I : Iv K} (c : Rc K) (h : atI ds i = some d) (eI : I = c.fill (iLst K p ds) := by rfl) : P2 K I (rIxL K) (.adr p) (.int i) d := fun P pp G H v w Q s hI r1 r2 q => by
  subst eI
  obtain ⟨vs, ho, r, _⟩ := hI.lst
  obtain ⟨u, h1, h2⟩ := atI_rep r h
  exact ⟨p, vs, i, u, r1, r2, SqL.of ho, h1, q u d G H _ (Same.refl G) s hI h2 pp⟩
theorem pn_lenM {K : PySem.W.Frag} {I : Iv K} (c : Rc K) (eI : I = c.fill (iLst K p ds) := by rfl) : PN K I (fun xs H Q => ∃ p ys, xs = [.ref p] ∧ (SqL K H p ys ∨ SqT K H p ys) ∧ Q (.int ys.length) H) [.adr p] (.int ds.length) := fun P pp G H vs Q s hI ⟨v, r, e1, e2, e3⟩ q => by
  subst eI
  obtain ⟨ws, ho, rw', _⟩ := hI.lst
  exact ⟨p, ws, by rw [e1, show v = .ref p from e2, show r = [] from e3], .inl (SqL.of ho), by rw [rw'.length]; exact q _ (.int ds.length) G H _ (Same.refl G) s hI rfl pp⟩
/-- a new list of two: changing ++ kept -/
theorem p2_catMK {K : PySem.W.Frag} {I : Iv K} (c : Rc K) {es : List D} (hz : ds.length + es.length ≤ 100000) (eI : I = c.fill (iLst K p ds) := by rfl) : P2 K I rCat (.adr p) (.lst es) (.lst (ds ++ es)) := fun P pp G H v w Q s hI r1 ⟨b, zs, e1, e2, e3⟩ q => by
  subst eI
  obtain ⟨vs, ho, r, _⟩ := hI.lst
  refine ⟨p, b, vs, zs, r1, e1, ho, s _ _ e2, by rw [r.length, e3.length, sizeLine_eq]; omega, fun n hn => ?_⟩
  have hg : G n = none := s.free hn
  exact q (.ref n) (.lst (ds ++ es)) (upd G n (.lst (vs ++ zs))) _ _ (Evl.Ex.new hg) (same_upd2 s) (hI.keep hn s) ⟨n, vs ++ zs, rfl, upd_same, (r.append e3).mono (Evl.Ex.new hg)⟩ pp
theorem p2_catKK {K : PySem.W.Frag} {I : Iv K} {fs es : List D} (hz : fs.length + es.length ≤ 100000) : P2 K I rCat (.lst fs) (.lst es) (.lst (fs ++ es)) := fun P pp G H v w Q s hI ⟨a, vs, h1, h2, r⟩ ⟨b, zs, e1, e2, e3⟩ q => by
  refine ⟨a, b, vs, zs, h1, e1, s _ _ h2, s _ _ e2, by rw [r.length, e3.length, sizeLine_eq]; omega, fun n hn => ?_⟩
  have hg : G n = none := s.free hn
  exact q (.ref n) (.lst (fs ++ es)) (upd G n (.lst (vs ++ zs))) _ _ (Evl.Ex.new hg) (same_upd2 s) (hI.keep hn s) ⟨n, vs ++ zs, rfl, upd_same, (r.append e3).mono (Evl.Ex.new hg)⟩ pp
/-- list(xs), for good or as one that may change -/
theorem on_listK {K : PySem.W.Frag} {I : Iv K} {P : D → Iv K → Prop} {fs : List D} (hd : d = .lst fs ∨ d = .lsf fs ∨ d = .tup fs) (pp : P (.lst fs) I) : OpN K (fun xs H Q => ∃ p ys, xs = [.ref p] ∧ (SqL K H p ys ∨ SqT K H p ys) ∧ ∀ l, H l = none → Q (.ref l) (upd H l (.lst ys))) [d] I P := fun G H vs Q s hI ⟨v, r, e1, e2, e3⟩ q => by
  have k : ∃ a ws, v = .ref a ∧ (SqL K H a ws ∨ SqT K H a ws) ∧ Reps K G fs ws := by
    rcases hd with e | e | e <;> subst e
    · obtain ⟨a, ws, h1, h2, h3⟩ := e2
      exact ⟨a, ws, h1, .inl (SqL.of (s _ _ h2)), h3⟩
    · obtain ⟨a, ws, h1, h2, h3⟩ := e2
      exact ⟨a, ws, h1, .inl (sqL_mono s h2), h3⟩
    · obtain ⟨a, ws, h1, h2, h3⟩ := e2
      exact ⟨a, ws, h1, .inr (sqT_mono s h2), h3⟩
  obtain ⟨a, ws, h1, h2, h3⟩ := k
  refine ⟨a, ws, by rw [e1, h1, show r = [] from e3], h2, fun n hn => ?_⟩
  have hg : G n = none := s.free hn
  exact q (.ref n) (.lst fs) (upd G n (.lst ws)) _ _ (Evl.Ex.new hg) (same_upd2 s) (hI.keep hn s) ⟨n, ws, rfl, upd_same, h3.mono (Evl.Ex.new hg)⟩ pp
theorem on_listM {K : PySem.W.Frag} {I : Iv K} {P : D → Iv K → Prop} {fs : List D} (hd : d = .lst fs ∨ d = .lsf fs ∨ d = .tup fs) (pp : ∀ n, (∀ a, ¬ (I.F a ∧ a = n)) → P (.adr n) (I.and (iLst K n fs))) : OpN K (fun xs H Q => ∃ p ys, xs = [.ref p] ∧ (SqL K H p ys ∨ SqT K H p ys) ∧ ∀ l, H l = none → Q (.ref l) (upd H l (.lst ys))) [d] I P := fun G H vs Q s hI ⟨v, r, e1, e2, e3⟩ q => by
  have k : ∃ a ws, v = .ref a ∧ (SqL K H a ws ∨ SqT K H a ws) ∧ Reps K G fs ws := by
    rcases hd with e | e | e <;> subst e
    · obtain ⟨a, ws, h1, h2, h3⟩ := e2
      exact ⟨a, ws, h1, .inl (SqL.of (s _ _ h2)), h3⟩
    · obtain ⟨a, ws, h1, h2, h3⟩ := e2
      exact ⟨a, ws, h1, .inl (sqL_mono s h2), h3⟩
    · obtain ⟨a, ws, h1, h2, h3⟩ := e2
      exact ⟨a, ws, h1, .inr (sqT_mono s h2), h3⟩
  obtain ⟨a, ws, h1, h2, h3⟩ := k
  refine ⟨a, ws, by rw [e1, h1, show r = [] from e3], h2, fun n hn => ?_⟩
  have hg : G n = none := s.free hn
  have na : ∀ a, ¬ (I.F a ∧ a = n) := fun a ha => hI.dom ha.1 (by rw [ha.2]; exact hn)
  exact q (.ref n) (.adr n) G _ (I.and (iLst K n fs)) (Same.refl G) (same_upd s hg) (Hd.mk2 (hI.newp hn) ⟨⟨_, upd_same, ws, rfl, h3⟩, fun a ha => by rw [show a = n from ha]; exact hg⟩ na) rfl (pp n na)
/-- xs[i] = e, xs may change -/
theorem s_setItem (c : Rc X.K) {j : Nat} (ho : PV X I o δ (.adr p)) (hi : PV X I b δ (.int i)) (he : PV X I e δ d) (hj : ixN ds.length i = some j) (q : κ.nx δ (c.fill (iLst X.K p (ds.set j d)))) {ps : Pos} (eI : I = c.fill (iLst X.K p ds) := by rfl)
    (hs : swapsWithSole [.Subscript o b ps] e pos.line X.env = pure false := by rfl) (hw : swappedStores [.Subscript o b ps] e X.env = pure none := by rfl) (h1 : (assignEach [.Subscript o b ps] X.env).map (·.2) = [assign (.Subscript o b ps) X.env] := by rfl)
    (hasg : ∀ v, assign (.Subscript o b ps) X.env v = (do
      let ov ← holding [v] (eval o X.env)
      let iv ← holding [v, ov] (eval b X.env)
      standAt ps
      holding [v, ov, iv] (setItem ov iv v)
      release [v, ov, iv] []) := by intro _; rfl) :
    S1 X W (.Assign [.Subscript o b ps] e pos) δ I κ := fun σ G H E hE s hI k => by
  subst eI
  exact PS.wp (ps_asg peC (pg_sub peC peC set_list (ha := hasg)) hs hw h1) (he W _ (fun z I1 => z = d ∧ I1 = c.fill (iLst X.K p ds)) ⟨rfl, rfl⟩ σ G H _ hE s hI (k.kx hE) fun v d1 G1 H1 I1 s1 t1 h1 r1 ⟨ed, ei⟩ => by
    subst ed ei
    refine ho W (κ.r δ) (fun z I1 => z = .adr p ∧ I1 = c.fill (iLst X.K p ds)) ⟨rfl, rfl⟩ σ G1 H1 _ (hE.mono s1) t1 h1 ((k.kx hE).mono s1) fun ov d2 G2 H2 I2 s2 t2 h2 r2 ⟨ed, ei⟩ => ?_
    subst ed ei
    refine hi W (κ.r δ) (fun z I1 => z = .int i ∧ I1 = c.fill (iLst X.K p ds)) ⟨rfl, rfl⟩ σ G2 H2 _ (hE.mono (s1.trans s2)) t2 h2 ((k.kx hE).mono (s1.trans s2)) fun iv d3 G3 H3 I3 s3 t3 h3 r3 ⟨ed, ei⟩ => ?_
    subst ed ei
    obtain ⟨vs, hp, rv, gp⟩ := h3.lst
    refine ⟨p, vs, i, j, r2, r3, hp, by rw [rv.length]; exact hj, ?_⟩
    exact k.nx δ σ G3 _ _ ((s1.trans s2).trans s3) (same_upd t3 gp) (h3.lstSet (rv.set ((r1.mono s2).mono s3))) (hE.mono ((s1.trans s2).trans s3)) q)
/-- xs.append(e) -/
theorem s_append (c : Rc X.K) {apos ep : Pos} (ho : PV X I o δ (.adr p)) (hI0 : I = c.fill (iLst X.K p ds)) (h : EvX X W (κ.r δ) e δ I fun d I1 => I1 = c.fill (iLst X.K p ds) ∧ ds.length < 1000000 ∧ κ.nx δ (c.fill (iLst X.K p (ds ++ [d]))))
    (hbase : attributeBase o "append" X.env (eval o X.env) = eval o X.env := by rfl)
    (hfew : ((backTo pos (starEach [e] X.env)).all (fun x => !x.1) && (backToKw pos (keywordEach [] X.env)).all (fun x => x.1.isSome) && decide ([e].length + ([] : List Keyword).length + (if ([] : List Keyword).isEmpty then 0 else 1) < 30)) = true := by rfl)
    (hline : (apos.endLine == pos.line) = true := by rfl) (hst : starEach [e] X.env = (false, eval e X.env) :: starEach [] X.env := by rfl) (hpl : (backTo pos (starEach [] X.env)).any (·.1) = false := by rfl)
    (hs : swapsWith (.Call (.Attribute o "append" apos) [e] [] pos) none ep.line X.env = pure false := by rfl) : S1 X W (.Expr (.Call (.Attribute o "append" apos) [e] [] pos) ep) δ I κ := fun σ G H E hE s hI k =>
  PS.wp (ps_expr (pe_bm PySem.F.plainAttrs_list PySem.F.slot_list_append PySem.F.type_list_append mt_append peC (pa_cons peC pa_nil hst) hbase hfew hline hst hpl) hs) (ho W (κ.r δ) (fun z I1 => z = .adr p ∧ I1 = I) ⟨rfl, rfl⟩ σ G H _ hE s hI (k.kx hE) fun v d1 G1 H1 I1 s1 t1 h1 r1 ⟨ed, ei⟩ => by
    subst ed ei hI0
    obtain ⟨vs, hp, rv, gp⟩ := h1.lst
    obtain rfl : v = .ref p := r1
    refine ⟨.inl ⟨rfl, _, .inl (.inl hp)⟩, ?_⟩
    refine h σ G1 H1 _ (hE.mono s1) t1 h1 ((k.kx hE).mono s1) fun w d2 G2 H2 I2 s2 t2 h2 r2 ⟨ei, hz, nx⟩ => ?_
    subst ei
    obtain ⟨vs2, hp2, rv2, gp2⟩ := h2.lst
    refine ⟨p, vs2, w, rfl, rfl, hp2, by rw [rv2.length, sizeLine_eq]; omega, ?_⟩
    exact k.nx δ σ G2 _ _ (s1.trans s2) (same_upd t2 gp2) (h2.lstSet (rv2.append (Reps.one r2))) (hE.mono (s1.trans s2)) nx)
/-- a list that changes no more -/
theorem freeze_lst {K : PySem.W.Frag} {I : Iv K} {G H : Hp} (s : Same G H) (h : Hd (I.and (iLst K p ds)) G H) : ∃ G', Same G G' ∧ Same G' H ∧ Hd I G' H ∧ Rep K G' (.lst ds) (.ref p) := by
  obtain ⟨o, ho, vs, ev, rv⟩ := h.right.ph
  subst ev
  have gp : G p = none := h.right.fr p rfl
  refine ⟨upd G p (.lst vs), Evl.Ex.new gp, same_freeze s ho, ⟨I.loc G _ H H (Evl.Ex.new gp) (fun _ _ => rfl) h.left.ph, fun a ha => ?_⟩, ⟨p, vs, rfl, upd_same, rv.mono (Evl.Ex.new gp)⟩⟩
  rw [upd_ne fun e => h.apart a ⟨ha, e⟩]
  exact h.left.fr a ha
theorem sx_freeze {sts : List Stmt} {i : Nat} (hd : δ[i]? = some (some (.adr p))) (h : SX X W sts (δ.set i (some (.lst ds))) I κ) : SX X W sts δ (I.and (iLst X.K p ds)) κ := fun σ G H E hE s hI k => by
  obtain ⟨G', s1, t1, h1, r⟩ := freeze_lst s hI
  obtain ⟨v, hv, rv⟩ := hE.2 i _ hd
  have ev : v = .ref p := rv
  subst ev
  have e2 := (hE.mono s1).set (i := i) r
  have e3 : σ.set i (some (.ref p)) = σ := by
    apply List.ext_getElem?
    intro j
    by_cases hj : i = j
    · subst hj
      rw [List.getElem?_set_self (List.getElem?_eq_some_iff.mp hv).1, hv]
    · rw [List.getElem?_set_ne hj]
  rw [e3] at e2
  exact h σ G' H E e2 t1 h1 (k.mono s1)
end
/-! ### the law's draws -/
def iDrC (K : PySem.W.Frag) (a b : Addr) (s k m : Int) (ns : List Int) : Iv K := (iLst K a [.int s, .adr b, .int k, .int m]).and (iLst K b (ns.map D.int))
def iDr (K : PySem.W.Frag) (a b : Addr) : Iv K where
  F := fun x => x = a ∨ x = b
  φ := fun G H => ∃ q : Int × Int × Int × List Int, (iDrC K a b q.1 q.2.1 q.2.2.1 q.2.2.2).φ G H ∧ q.2.2.2.length ≤ 63
  loc := fun G G' H H' s k ⟨q, h, hl⟩ => ⟨q, (iDrC K a b q.1 q.2.1 q.2.2.1 q.2.2.2).loc G G' H H' s k h, hl⟩
  dom := fun G H ⟨q, h, _⟩ x hx => (iDrC K a b q.1 q.2.1 q.2.2.1 q.2.2.2).dom G H h x hx
theorem iDr_of {K : PySem.W.Frag} {a b : Addr} {s k m : Int} {ns : List Int} (hl : ns.length ≤ 63) : Sub (iDrC K a b s k m ns) (iDr K a b) := ⟨fun _ => Iff.rfl, fun _ _ h => ⟨(s, k, m, ns), h, hl⟩⟩
theorem iDr_open {X : Cx} {W : WX} {a b : Addr} {sts : List Stmt} {δ : DEnv} {κ : Ko X.K} {c : Rc X.K} (h : ∀ s k m ns, ns.length ≤ 63 → SX X W sts δ (c.fill (iDrC X.K a b s k m ns)) κ) : SX X W sts δ (c.fill (iDr X.K a b)) κ := fun σ G H E hE s hI kk => by
  obtain ⟨⟨q, hq⟩, hx⟩ := Hd.opens (I := iDr X.K a b) (f := fun x : { q : Int × Int × Int × List Int // q.2.2.2.length ≤ 63 } => iDrC X.K a b x.1.1 x.1.2.1 x.1.2.2.1 x.1.2.2.2) (fun _ _ => Iff.rfl) (fun _ _ ⟨q, h, hl⟩ => ⟨⟨q, hl⟩, h⟩) hI
  exact h _ _ _ _ hq σ G H E hE s hx kk
/-- the region is said more loosely at the ends -/
def Ko.sub {K : PySem.W.Frag} (κ : Ko K) (I I' : Iv K) : Ko K := κ
end DL
set_option Elab.async false
set_option linter.all false
set_option maxRecDepth 100000
set_option maxHeartbeats 4000000
namespace DL
open PySem PySem.Spec PyProof.Rows L2

/-! ### errors: made, raised -/
/-- the fields' names and data; the last stored stands first -/
theorem FRep.of {K : PySem.W.Frag} {G : Hp} : ∀ {fs : List (Str × D)} {l : List (Str × V)}, FRep K G fs l → l.map (·.1) = fs.map (·.1) ∧ ∀ f d, fs.lookup f = some d → ∃ v, l.lookup f = some v ∧ Rep K G d v
  | [], l, h => by
    have e : l = [] := h
    subst e
    exact ⟨rfl, fun f d z => by cases z⟩
  | (x, d0) :: fs, l, ⟨v, r, e, r1, r2⟩ => by
    subst e
    obtain ⟨h1, h2⟩ := FRep.of r2
    refine ⟨by rw [List.map_cons, List.map_cons, h1], fun f d z => ?_⟩
    by_cases hf : f = x
    · subst hf
      simp [List.lookup] at z
      subst z
      exact ⟨v, by simp [List.lookup], r1⟩
    · have e : (f == x) = false := by simpa using hf
      simp only [List.lookup, e] at z ⊢
      exact h2 f d z
theorem FRep.mono {K : PySem.W.Frag} {G G' : Hp} (s : Same G G') : ∀ {fs : List (Str × D)} {l : List (Str × V)}, FRep K G fs l → FRep K G' fs l
  | [], _, h => h
  | _ :: _, _, ⟨v, r, e, r1, r2⟩ => ⟨v, r, e, r1.mono s, FRep.mono s r2⟩
/-- what an error's __init__ does: the arguments become its fields -/
def spXIC (C : Addr) (ks : List Str) : Sp := fun vs H Q _ => ∃ (a : Addr) (ws : List V), vs = .ref a :: ws ∧ ws.length = ks.length ∧ H a = some (exo a C none) ∧ ∀ (d : Addr) (H' : Hp), H d = none → d ≠ a → H' a = some (exo a C (some d)) → H' d = some (exd d (ks.zip ws).reverse) → (∀ b, b ≠ a → b ≠ d → H' b = H b) → Q .non H'
section
variable {X : Cx} {W : WX} {es : List Expr} {e : Expr} {δ : DEnv} {I : Iv X.K} {κ : Ko X.K} {pos p pos2 : Pos} {x : Str} {C fI : Addr} {fd : FuncData} {ps ks : List Str} {k : Nat}
theorem frep_zip {K : PySem.W.Frag} {G : Hp} : ∀ {ks : List Str} {ds : List D} {vs : List V}, Reps K G ds vs → ks.length = ds.length → FRep K G (ks.zip ds) (ks.zip vs)
  | [], _, _, _, _ => by simp [FRep]
  | k :: ks, [], _, _, h => by simp at h
  | k :: ks, d :: ds, _, ⟨v, r, e, r1, r2⟩, h => by
    subst e
    exact ⟨v, ks.zip r, rfl, r1, frep_zip r2 (by simpa using h)⟩
theorem frep_append {K : PySem.W.Frag} {G : Hp} : ∀ {fs gs : List (Str × D)} {l m : List (Str × V)}, FRep K G fs l → FRep K G gs m → FRep K G (fs ++ gs) (l ++ m)
  | [], _, l, m, h, t => by
    have e : l = [] := h
    subst e
    exact t
  | f :: fs, gs, l, m, ⟨v, r, e, r1, r2⟩, t => by
    subst e
    exact ⟨v, r ++ m, rfl, r1, frep_append r2 t⟩
theorem frep_rev {K : PySem.W.Frag} {G : Hp} : ∀ {fs : List (Str × D)} {l : List (Str × V)}, FRep K G fs l → FRep K G fs.reverse l.reverse
  | [], l, h => by
    have e : l = [] := h
    subst e
    exact rfl
  | f :: fs, l, ⟨v, r, e, r1, r2⟩ => by
    subst e
    rw [List.reverse_cons, List.reverse_cons]
    exact frep_append (frep_rev r2) ⟨v, [], rfl, r1, rfl⟩
/-- raise C(e, ..) -/
theorem s_raise (tk : Takes X W) (T : OexC X.K C) (iC : PySem.W.findIn X.K (.ref C) "__init__" = some (some (.ref fI))) (tI : PySem.W.typeIn X.K (.ref fI) = some (.type "function"))
    (F1 : FnOk X.prog X.w X.K X.mg X.base (L2.CX X.prog X.w) k fI fd ps (spXIC C ks)) (hr : Room (k + 1) X.A) (hb : Binds X.K fd ps []) (hm : X.mg x = some (.ref C))
    (h : EvA X W (κ.r δ) (e :: es) δ I fun ds I1 => ks.length = ds.length ∧ ds.length ≤ 10 ∧ κ.ex C (ks.zip ds).reverse δ I1) (hc : X.calm = true := by rfl) (hg : Gl X x := by rfl) (hdb : (x == ("__debug__" : Str)) = false := by decide)
    (he : starEach (e :: es) X.env = (false, eval e X.env) :: starEach es X.env := by rfl) (hpl : (backTo pos (starEach es X.env)).any (·.1) = false := by rfl) : S1 X W (.Raise (some (.Call (.Name x p) (e :: es) [] pos)) none pos2) δ I κ := fun σ G H E hE s hI kk =>
  PS.wp (ps_raise hc tk (pmk_oex T iC tI F1 hr hb .nil passL hg hm paC hdb he hpl)) (h σ G H _ hE s hI (kk.kx hE) fun vs ds G1 H1 I1 s1 t1 h1 r1 ⟨hl, hz, xx⟩ => by
    refine ⟨by rw [r1.length]; omega, fun a ha => ?_⟩
    refine ⟨a, vs ++ [], rfl, by rw [List.append_nil, r1.length, hl], upd_same, fun d H2 hd hda e1 e2 e3 => ?_⟩
    rw [upd_ne hda] at hd
    refine ⟨rfl, d, _, e1, e2, hd, ?_⟩
    have eH : upd (L2.del H2 a) d (.xd (ks.zip (vs ++ [])).reverse) = upd H1 d (.xd (ks.zip (vs ++ [])).reverse) := by
      funext b
      by_cases hb : b = d
      · subst hb; rw [upd_same, upd_same]
      · rw [upd_ne hb, upd_ne hb]
        by_cases hba : b = a
        · subst hba; rw [del_same, ha]
        · rw [del_ne hba, e3 b hba hb, upd_ne hba]
    rw [eH]
    have gd : G1 d = none := t1.free hd
    refine kk.ex C d (ks.zip ds).reverse _ δ σ (upd G1 d (.xd (ks.zip (vs ++ [])).reverse)) _ I1 (s1.trans (Evl.Ex.new gd)) (same_upd2 t1) (h1.keep hd t1) (hE.mono (s1.trans (Evl.Ex.new gd))) ?_ upd_same xx
    rw [List.append_nil]
    exact (frep_rev (frep_zip r1 hl)).mono (Evl.Ex.new gd))
end
/-! ### an error that is caught -/
theorem frep_split {K : PySem.W.Frag} {G : Hp} : ∀ {fs : List (Str × D)} {l : List (Str × V)}, FRep K G fs l → l = (fs.map (·.1)).zip (l.map (·.2)) ∧ Reps K G (fs.map (·.2)) (l.map (·.2))
  | [], l, h => by
    have e : l = [] := h
    subst e
    exact ⟨rfl, rfl⟩
  | f :: fs, l, ⟨v, r, e, r1, r2⟩ => by
    subst e
    obtain ⟨h1, h2⟩ := frep_split r2
    refine ⟨?_, ⟨v, _, rfl, r1, h2⟩⟩
    show (f.1, v) :: r = (f.1, v) :: (fs.map (·.1)).zip (r.map (·.2))
    rw [← h1]
theorem lookup_zip {K : PySem.W.Frag} {G : Hp} {f : Str} {d : D} : ∀ {ks : List Str} {ds : List D} {vs : List V}, Reps K G ds vs → (ks.zip ds).lookup f = some d → ∃ v, (ks.zip vs).lookup f = some v ∧ Rep K G d v
  | [], _, _, _, h => by simp at h
  | k :: ks, [], _, _, h => by simp at h
  | k :: ks, d0 :: ds, _, ⟨v, r, e, r1, r2⟩, h => by
    subst e
    by_cases hk : f = k
    · subst hk
      simp [List.lookup] at h
      subst h
      exact ⟨v, by simp [List.lookup], r1⟩
    · have e : (f == k) = false := by simpa using hk
      simp only [List.zip_cons_cons, List.lookup, e] at h ⊢
      exact lookup_zip r2 h
section
variable {X : Cx} {I : Iv X.K} {δ : DEnv} {e : Expr} {pos : Pos} {d : D}
/-- the error's field, in the suite -/
theorem pv_xf {a C dd : Addr} {oe : Obj} {pn : List (Addr × Obj)} {n : Str} {ks : List Str} {ds : List D} {I : Iv (X.suite a ((a, oe) :: pn)).K} (T : XfC X.K C) (hno : PySem.W.findIn X.K (.ref C) n = some none) (hz : Zc (.ref C) (some dd) oe) (hf : ∃ vs, oe.data = .fields vs)
    (he : PV (X.suite a ((a, oe) :: pn)) I e δ (.exc a C dd ks ds)) (hl : (ks.zip ds).lookup n = some d) (hb : attributeBase e n (X.suite a ((a, oe) :: pn)).env (eval e (X.suite a ((a, oe) :: pn)).env) = eval e (X.suite a ((a, oe) :: pn)).env := by rfl) : PV (X.suite a ((a, oe) :: pn)) I (.Attribute e n pos) δ d := fun W R P p σ G H Q hE s hI qx q =>
  PE.wp (pe_xf T hno hz hf peC hb) (he W R (fun z I1 => z = .exc a C dd ks ds ∧ I1 = I) ⟨rfl, rfl⟩ σ G H _ hE s hI qx fun v d1 G1 H1 I1 s1 t1 h1 r1 ⟨ed, ei⟩ => by
    subst ed ei
    obtain ⟨ev, vs, h2, h3⟩ := r1
    obtain ⟨u, h4, h5⟩ := lookup_zip h3 hl
    exact ⟨ev, rfl, dd, _, u, rfl, t1 _ _ h2, h4, q u d G1 H1 _ s1 t1 h1 h5 p⟩)
/-- isinstance(e, T) -/
def rIsX (K : PySem.W.Frag) (C a dd : Addr) : List V → Hp → VK → Prop := fun xs H Q => ∃ (c : V) (cv : Value) (b : Bool) (l : List (Str × V)), xs = [.ref a, c] ∧ H dd = some (.xd l) ∧ (∀ u, RelV c u → u = cv) ∧ PySem.W.kitOne K (.ref C) cv = some b ∧ Q (.bl b) H
theorem call_isX {a C dd : Addr} {oe : Obj} {pn : List (Addr × Obj)} (T : ExcC X.K C) (hz : Zc (.ref C) (some dd) oe) (hf : ∃ vs, oe.data = .fields vs) : CallR (X.suite a ((a, oe) :: pn)) (.builtin "isinstance") (rIsX X.K C a dd) := fun pins s σ H xs us Q J r h => by
  obtain ⟨c, cv, b, l, rfl, hd, hc, hk, q⟩ := h
  obtain ⟨u1, u2, rfl, r1, r2⟩ := vals2 r
  cases (show u1 = Value.ref a from r1)
  have e2 := hc _ r2
  subst e2
  have g1 := (J.pin (a, oe) (List.mem_append_left _ List.mem_cons_self)).1
  obtain ⟨fv, hv⟩ := hf
  obtain ⟨mA, hns, _⟩ := (show ObjOk X.prog X.w H s.heap dd (.xd l) from J.hok dd _ hd)
  obtain ⟨od, ho, _⟩ := lookIn_ns hns
  have cl : (PySem.W.clsIn X.K C).isSome = true := by
    obtain ⟨cd, hcd, _⟩ := PySem.W.any_some T.hd
    rw [hcd] <;> rfl
  have at_ : PySem.W.InstAt s.heap a oe C (some od) := ⟨g1, hz.1, by unfold PySem.W.notCls; rw [hv] <;> rfl, by rw [hz.2]; exact ho⟩
  exact PySem.W.kia_one (PySem.W.kitx_exc cl T.hg T.hk T.hs T.ha T.hn T.ht T.hm) J.kIn at_ hk (fun z => nomatch z) fun tk => ⟨.bl b, H, J.tok tk, rfl, q⟩
/-- a class as data: a built-in type | an own one, by its address -/
theorem pn_isX {K : PySem.W.Frag} {I : Iv K} {a C dd : Addr} {ks : List Str} {ds : List D} {c : D} {cv : V} {cu : Value} {b : Bool} (hc : ∀ G v, Rep K G c v → v = cv) (hu : ∀ u, RelV cv u → u = cu) (hk : PySem.W.kitOne K (.ref C) cu = some b) : PN K I (rIsX K C a dd) [.exc a C dd ks ds, c] (.bl b) := fun P p G H vs Q s hI ⟨v, r, e1, ⟨e2, ws, e6, e7⟩, v2, r2, e3, e4, e5⟩ q =>
  ⟨cv, cu, b, _, by rw [e1, e3, e2, hc _ _ e4, show r2 = [] from e5], s _ _ e6, hu, hk, q _ (.bl b) G H I (Same.refl G) s hI rfl p⟩
/-- try: .. except C0 as n: .. -/
theorem s_try {W : WX} {κ : Ko X.K} {x n : Str} {c : Value} {i : Nat} {body suite : List Stmt} {b0 : Stmt} {np pos' : Pos} (tk : Takes X W) (hN : X.N.Nodup) (hc : Names X x c)
    (h : ∀ (W' : WX) (pn : List (Addr × Obj)) (xe : Value → Shared → Prop), Takes (X.tr pn xe) W' → PassesOwn (model X.prog X.w) X.A X.env xe → SX (X.tr pn xe) W' body δ I { κ with ex := fun C fs δ' I' => ∃ b, PySem.W.exmOne X.K (.ref C) c = some b ∧
      (b = true → ∀ (a dd : Addr) (oe : Obj) (pn : List (Addr × Obj)), Zc (.ref C) (some dd) oe → (∃ vs, oe.data = .fields vs) → SX (X.suite a ((a, oe) :: pn)) W0 (b0 :: suite) (δ'.set i (some (.exc a C dd (fs.map (·.1)) (fs.map (·.2))))) I'
        { nx := fun δ'' I'' => κ.nx (δ''.set i none) I'', rt := κ.rt, bk := fun δ'' I'' => κ.bk (δ''.set i none) I'', ct := fun δ'' I'' => κ.ct (δ''.set i none) I'' }) ∧ (b = false → κ.ex C fs δ' I') })
    (hi : X.N[i]? = some n := by rfl) (hln : X.env.kindOf n = some .local := by rfl) (hs : X.stack = X.env :: X.outer := by rfl) (hf : X.env.frame = some X.env.locals := by rfl) : S1 X W (.Try body [.ExceptHandler (some (.Name x np)) (some n) (b0 :: suite) pos'] [] [] pos) δ I κ := fun σ G H E hE s hI k =>
  PS.wp (ps_try_as (i := i) (tb := fun W' D σ H => ∀ pn xe, Takes (X.tr pn xe) W' → PassesOwn (model X.prog X.w) X.A X.env xe → wpB (X.tr pn xe) body D σ H)
    (ts := fun a cls d D σ H => ∀ oe pn, Zc cls d oe → (∃ vs, oe.data = .fields vs) → wpB (X.suite a ((a, oe) :: pn)) (b0 :: suite) D σ H) (Wout := W) hs hf hN hi hln hc tk
    (fun W' pn xe tk' po => ⟨fun pins s σ H D J q => (q pn xe tk' po).run pins s J⟩) (fun a oe cls d pn hz hf => ⟨fun pins s σ H D J q => (q oe pn hz hf).run pins s J⟩)) (by
    intro pn xe tk' po
    refine h _ pn xe tk' po σ G H E hE s hI ⟨k.nx, k.rt, k.bk, k.ct, ?_⟩
    rintro C dd fs l δ' σ' G' H' I' s1 t1 h1 e1 rf hd ⟨b, hb, yes, no⟩
    refine ⟨b, hb, fun e a ha oe pn hz hf => ?_, fun e => k.ex C dd fs l δ' σ' G' H' I' s1 t1 h1 e1 rf hd (no e)⟩
    obtain ⟨el, rl⟩ := frep_split rf
    refine yes e a dd oe pn hz hf _ G' H' _ (EnvR.set (v := .ref a) e1 ⟨rfl, l.map (·.2), by rw [← el]; exact hd, rl⟩) t1 h1 ⟨fun δ5 σ5 G5 H5 I5 s5 t5 h5 r5 p5 => k.nx _ _ G5 H5 I5 (s1.trans s5) t5 h5 (r5.drop none) p5, k.rt.mono s1, fun δ5 σ5 G5 H5 I5 s5 t5 h5 r5 p5 => k.bk _ _ G5 H5 I5 (s1.trans s5) t5 h5 (r5.drop none) p5, fun δ5 σ5 G5 H5 I5 s5 t5 h5 r5 p5 => k.ct _ _ G5 H5 I5 (s1.trans s5) t5 h5 (r5.drop none) p5, ?_⟩
    intro _ _ _ _ _ _ _ _ _ _ _ _ _ _ _ z
    exact z.elim)
end
end DL
set_option Elab.async false
set_option linter.all false
set_option maxRecDepth 100000
set_option maxHeartbeats 4000000
namespace DL
open PySem PySem.Spec PyProof.Rows L2

/-! ### instances with slots -/
def ORep (K : PySem.W.Frag) (G : Hp) (os : List (Option D)) (vs : List (Option V)) : Prop := vs.length = os.length ∧ ∀ (i : Nat) (d : D), os[i]? = some (some d) → ∃ v, vs[i]? = some (some v) ∧ Rep K G d v
theorem ORep.mono {K : PySem.W.Frag} {G G' : Hp} {os : List (Option D)} {vs : List (Option V)} (s : Same G G') (h : ORep K G os vs) : ORep K G' os vs := ⟨h.1, fun i d e => by
  obtain ⟨v, h1, h2⟩ := h.2 i d e
  exact ⟨v, h1, h2.mono s⟩⟩
def iSl (K : PySem.W.Frag) (x C dx : Addr) (os : List (Option D)) : Iv K where
  F := fun a => a = x ∨ a = dx
  φ := fun G H => H dx ≠ none ∧ dx ≠ x ∧ ∃ vs, SlX.Slt H x C dx vs ∧ ORep K G os vs
  loc := fun G G' H H' s k ⟨h1, h0, vs, h2, h3⟩ => ⟨by rw [k dx (.inr rfl)]; exact h1, h0, vs, by
    have e1 := k x (.inl rfl)
    have e2 := k dx (.inr rfl)
    rcases h2 with ⟨q1, q2⟩ | ⟨q1, q2⟩
    · exact .inl ⟨by rw [e1]; exact q1, q2⟩
    · exact .inr ⟨by rw [e1]; exact q1, by rw [e2]; exact q2⟩, h3.mono s⟩
  dom := fun G H ⟨h1, _, vs, h2, _⟩ a ha => by
    rcases ha with e | e
    · subst e
      rcases h2 with ⟨q, _⟩ | ⟨q, _⟩ <;> rw [q] <;> simp
    · subst e
      exact h1
/-- the slots behind x.f = d, f in slot i -/
def putO (i : Nat) (d : D) (os : List (Option D)) : List (Option D) := (os ++ List.replicate (i + 1 - os.length) none).set i (some d)
theorem ORep.put {K : PySem.W.Frag} {G : Hp} {os : List (Option D)} {vs : List (Option V)} (h : ORep K G os vs) (i : Nat) {d : D} {v : V} (r : Rep K G d v) : ORep K G (putO i d os) (SlX.putS i v vs) := by
  unfold putO SlX.putS
  refine ⟨by simp [h.1], fun j e he => ?_⟩
  have hl : i < (os ++ List.replicate (i + 1 - os.length) none).length := by simp; omega
  by_cases hj : i = j
  · subst hj
    rw [List.getElem?_set_self hl] at he
    have e2 : d = e := by simpa using he
    subst e2
    exact ⟨v, List.getElem?_set_self (by simp; omega), r⟩
  · rw [List.getElem?_set_ne hj] at he
    by_cases ho : j < os.length
    · rw [List.getElem?_append_left ho] at he
      obtain ⟨w, h1, h2⟩ := h.2 j e he
      exact ⟨w, by rw [List.getElem?_set_ne hj, List.getElem?_append_left (by rw [h.1]; exact ho)]; exact h1, h2⟩
    · rw [List.getElem?_append_right (by omega), List.getElem?_replicate] at he
      split at he <;> cases he
section
variable {K : PySem.W.Frag} {G H : Hp} {x C dx : Addr} {os : List (Option D)} {c : Rc K} {I : Iv K}
theorem Hd.sl (h : Hd (c.fill (iSl K x C dx os)) G H) : ∃ vs, SlX.Slt H x C dx vs ∧ ORep K G os vs ∧ dx ≠ x ∧ G x = none ∧ G dx = none := by
  obtain ⟨_, h0, vs, h2, h3⟩ := h.inner.ph
  exact ⟨vs, h2, h3, h0, h.inner.fr x (.inl rfl), h.inner.fr dx (.inr rfl)⟩
theorem slH_same {vs : List (Option V)} (s : Same G H) (h1 : G x = none) (h2 : G dx = none) : Same G (SlX.slH H x C dx vs) := fun a u e => by
  rw [SlX.slH_ne (ne_of_none e h1) (ne_of_none e h2)]
  exact s a u e
theorem Hd.slSet {os' : List (Option D)} {vs' : List (Option V)} (h : Hd (c.fill (iSl K x C dx os)) G H) (r : ORep K G os' vs') : Hd (c.fill (iSl K x C dx os')) G (SlX.slH H x C dx vs') := by
  obtain ⟨_, h0, _⟩ := h.inner.ph
  refine Hd.change (I := iSl K x C dx os) (I' := iSl K x C dx os') (fun _ => Iff.rfl) (fun a ha => SlX.slH_ne (fun e => ha (.inl e)) (fun e => ha (.inr e))) ⟨⟨?_, h0, vs', SlX.slH_slt h0, r⟩, h.inner.fr⟩ h
  show SlX.slH H x C dx vs' dx ≠ none
  unfold SlX.slH
  rw [upd_ne h0, upd_same]
  simp
/-- it changes no more -/
theorem freeze_sl {ds : List D} (s : Same G H) (h : Hd (I.and (iSl K x C dx (ds.map some))) G H) : ∃ G', Same G G' ∧ Same G' H ∧ Hd I G' H ∧ Rep K G' (.slo C ds) (.ref x) := by
  obtain ⟨hd, h0, vs, h2, h3⟩ := h.right.ph
  have gx : G x = none := h.right.fr x (.inl rfl)
  have gd : G dx = none := h.right.fr dx (.inr rfl)
  obtain ⟨ox, ex⟩ : ∃ o, H x = some o := by
    rcases h2 with ⟨q, _⟩ | ⟨q, _⟩ <;> exact ⟨_, q⟩
  obtain ⟨od, ed⟩ : ∃ o, H dx = some o := Option.ne_none_iff_exists'.mp hd
  have g2 : upd G dx od x = none := by rw [upd_ne (Ne.symm h0)]; exact gx
  have sA : Same G (upd (upd G dx od) x ox) := (Evl.Ex.new gd).trans (Evl.Ex.new g2)
  have sB : Same (upd (upd G dx od) x ox) H := same_freeze (same_freeze s ed) ex
  have slt : SlX.Slt (upd (upd G dx od) x ox) x C dx vs := by
    rcases h2 with ⟨q1, q2⟩ | ⟨q1, q2⟩
    · exact .inl ⟨by rw [upd_same, ← ex]; exact q1, q2⟩
    · exact .inr ⟨by rw [upd_same, ← ex]; exact q1, by rw [upd_ne h0, upd_same, ← ed]; exact q2⟩
  -- the slots as values
  have key : ∀ {ds : List D} {vs : List (Option V)}, ORep K G (ds.map some) vs → ∃ ws, vs = ws.map some ∧ Reps K G ds ws := by
    intro ds
    induction ds with
    | nil =>
      intro vs ⟨hl, _⟩
      have e : vs = [] := List.length_eq_zero_iff.mp (by simpa using hl)
      exact ⟨[], by rw [e]; rfl, rfl⟩
    | cons d ds ih =>
      intro vs ⟨hl, hg⟩
      cases vs with
      | nil => simp at hl
      | cons v vs =>
        obtain ⟨w, h1, h2⟩ := hg 0 d rfl
        obtain ⟨ws, e1, e2⟩ := ih (vs := vs) ⟨by simpa using hl, fun i e he => by
          obtain ⟨w, q1, q2⟩ := hg (i + 1) e (by simpa using he)
          exact ⟨w, by simpa using q1, q2⟩⟩
        have e3 : v = some w := by simpa using h1
        exact ⟨w :: ws, by rw [e3, e1]; rfl, ⟨w, ws, rfl, h2, e2⟩⟩
  obtain ⟨ws, e1, e2⟩ := key h3
  subst e1
  refine ⟨_, sA, sB, ⟨I.loc G _ H H sA (fun _ _ => rfl) h.left.ph, fun a ha => ?_⟩, ⟨x, dx, ws, rfl, slt, e2.mono sA⟩⟩
  rw [upd_ne fun e => h.apart a ⟨ha, .inl e⟩, upd_ne fun e => h.apart a ⟨ha, .inr e⟩]
  exact h.left.fr a ha
end
section
variable {X : Cx} {W : WX} {R : Rx X.K} {a b e o : Expr} {es : List Expr} {δ : DEnv} {I : Iv X.K} {P : D → Iv X.K → Prop} {pos q' p : Pos} {n : Str} {d z : D} {x C dx pd : Addr} {ds : List D} {os : List (Option D)} {i : Nat} {κ : Ko X.K}
/-- o.f, for good -/
theorem pv_sl (c : SlX.SCls X.K C) (t : SlX.Slot1 X.K C n pd i) (ho : PV X I o δ (.slo C ds)) (hd : ds[i]? = some d) (hb : attributeBase o n X.env (eval o X.env) = eval o X.env := by rfl) : PV X I (.Attribute o n pos) δ d := fun W R P p σ G H Q hE s hI qx q =>
  PE.wp (SlX.pe_sl peC hb) (ho W R (fun z I1 => z = .slo C ds ∧ I1 = I) ⟨rfl, rfl⟩ σ G H _ hE s hI qx fun v d1 G1 H1 I1 s1 t1 h1 r1 ⟨ed, ei⟩ => by
    subst ed ei
    obtain ⟨y, dy, vs, e1, e2, e3⟩ := r1
    obtain ⟨u, h2, h3⟩ := e3.get hd
    exact ⟨y, C, dy, pd, vs.map some, i, u, e1, slt_mono t1 e2, c, t, by rw [List.getElem?_map, h2]; rfl, q u d G1 H1 _ s1 t1 h1 h3 p⟩)
/-- .. of one that may change -/
theorem pv_slM (k : Rc X.K) (c : SlX.SCls X.K C) (t : SlX.Slot1 X.K C n pd i) (ho : PV X I o δ (.adr x)) (hd : os[i]? = some (some d)) (hb : attributeBase o n X.env (eval o X.env) = eval o X.env := by rfl) (eI : I = k.fill (iSl X.K x C dx os) := by rfl) : PV X I (.Attribute o n pos) δ d := fun W R P p σ G H Q hE s hI qx q => by
  subst eI
  exact PE.wp (SlX.pe_sl peC hb) (ho W R (fun z I1 => z = .adr x ∧ I1 = k.fill (iSl X.K x C dx os)) ⟨rfl, rfl⟩ σ G H _ hE s hI qx fun v d1 G1 H1 I1 s1 t1 h1 r1 ⟨ed, ei⟩ => by
    subst ed ei
    obtain ⟨vs, h2, h3, _⟩ := h1.sl
    obtain ⟨u, h4, h5⟩ := h3.2 i d hd
    exact ⟨x, C, dx, pd, vs, i, u, r1, h2, c, t, h4, q u d G1 H1 _ s1 t1 h1 h5 p⟩)
/-- o.f = e -/
theorem s_slot (k : Rc X.K) (c : SlX.SCls X.K C) (t : SlX.Slot1 X.K C n pd i) (ho : PV X I o δ (.adr x)) (he : PV X I e δ d) (nx : κ.nx δ (k.fill (iSl X.K x C dx (putO i d os))))
    (hs : swapsWith e (some (.Attribute o n q')) pos.line X.env = pure false := by rfl) (eI : I = k.fill (iSl X.K x C dx os) := by rfl) : S1 X W (.Assign [.Attribute o n q'] e pos) δ I κ := fun σ G H E hE s hI kk => by
  subst eI
  exact PS.wp (SlX.ps_sl peC peC hs) (he W _ (fun z I1 => z = d ∧ I1 = k.fill (iSl X.K x C dx os)) ⟨rfl, rfl⟩ σ G H _ hE s hI (kk.kx hE) fun v d1 G1 H1 I1 s1 t1 h1 r1 ⟨ed, ei⟩ => by
    subst ed ei
    refine ho W (κ.r δ) (fun z I1 => z = .adr x ∧ I1 = k.fill (iSl X.K x C dx os)) ⟨rfl, rfl⟩ σ G1 H1 _ (hE.mono s1) t1 h1 ((kk.kx hE).mono s1) fun ov d2 G2 H2 I2 s2 t2 h2 r2 ⟨ed, ei⟩ => ?_
    subst ed ei
    obtain ⟨vs, h4, h5, h6, h7, h8⟩ := h2.sl
    exact ⟨x, C, dx, pd, vs, i, r2, h4, c, t, kk.nx δ σ G2 _ _ (s1.trans s2) (slH_same t2 h7 h8) (h2.slSet (h5.put i (r1.mono s2))) (hE.mono (s1.trans s2)) nx⟩)
/-- keywords -/
structure wpK (X : Cx) (kws : List Keyword) (σ : L2.St) (H : Hp) (Q : List V → Hp → Prop) : Prop where
  run : ∀ (pos : Pos) (pins : List (Addr × Obj)) (s : Shared), Inv X pins σ H s → wpAny (model X.prog X.w) X.A (evalAll ((backToKw pos (keywordEach kws X.env)).map (·.2))) (AP X pins σ Q) X.xe s
def EvK (X : Cx) (W : WX) (R : Rx X.K) (kws : List Keyword) (δ : DEnv) (I : Iv X.K) (P : List D → Iv X.K → Prop) : Prop := ∀ (σ : L2.St) (G H : Hp) (Q : List V → Hp → Prop), EnvR X.K G δ σ → Same G H → Hd I G H → Kx X.K W σ G R → Ka X.K Q G P → wpK X kws σ H Q
theorem pkC {kws : List Keyword} : PK X kws (wpK X kws) := ⟨fun pos pins s σ H Q I h => h.run pos pins s I⟩
theorem ek_nil {PP : List D → Iv X.K → Prop} (p : PP [] I) : EvK X W R [] δ I PP := fun σ G H Q hE s hI qx q => ⟨fun pos pins s1 J => pk_nil.run pos pins s1 σ H Q J (q [] [] G H I (Same.refl G) s hI rfl p)⟩
theorem ek_cons {PP : List D → Iv X.K → Prop} {nm : Option Str} {kpos : Pos} {kws : List Keyword} (h : EvX X W R e δ I fun d I1 => EvK X W R kws δ I1 fun ds I2 => PP (d :: ds) I2) : EvK X W R (⟨nm, e, kpos⟩ :: kws) δ I PP := fun σ G H Q hE s hI qx q => ⟨fun pos pins s1 J =>
  (pk_cons peC pkC).run pos pins s1 σ H Q J (h σ G H _ hE s hI qx fun v d G1 H1 I1 s1 t1 h1 r1 k => k σ G1 H1 _ (hE.mono s1) t1 h1 (qx.mono s1) fun vs ds G2 H2 I2 s2 t2 h2 r2 k2 => q (v :: vs) (d :: ds) G2 H2 I2 (s1.trans s2) t2 h2 ⟨v, vs, rfl, r1.mono s2, r2⟩ k2)⟩
/-- C(e, .., k = e, ..): an instance with slots, that changes no more -/
theorem ev_makeSl {x' : Str} {f : Addr} {fd : FuncData} {ps ks : List Str} {j m : Nat} {S : Spec X.K} {kws : List Keyword} {g : List Value → List Value → List Value} {gV : List V → List V → List V} (gD : List D → List D → List D) (tk : Takes X W) (M : Mk X.K C f) (F : FnOk X.prog X.w X.K X.mg X.base (L2.CX X.prog X.w) j f fd ps (spD X.K S))
    (hr : Room (j + 1) X.A) (hm : X.mg x' = some (.ref C)) (hb : KBn X.K fd ps (m + 1) ks g gV) (hgD : ∀ {G : Hp} {ds zs : List D} {vs ws : List V}, Reps X.K G ds vs → Reps X.K G zs ws → Reps X.K G (gD ds zs) (gV vs ws))
    (h : EvA X W R (e :: es) δ I fun ds I1 => EvK X W R kws δ I1 fun zs I2 => ds.length = m ∧ zs.length = ks.length ∧ ∀ y dy, (∀ a, ¬ (I2.F a ∧ (a = y ∨ a = dy))) → S (I2.and (iSl X.K y C dy [])) (gD (.adr y :: ds) zs)
      (fun v I3 => v = .non ∧ ∃ fs : List D, I3 = I2.and (iSl X.K y C dy (fs.map some)) ∧ P (.slo C fs) I2) (fun C' fs I3 => ∃ os, I3 = I2.and (iSl X.K y C dy os) ∧ R C' fs I2))
    (hg : Gl X x' := by rfl) (hdb : (x' == ("__debug__" : Str)) = false := by decide) (hall : (backToKw pos (keywordEach kws X.env)).all (·.1.isSome) = true := by rfl) (hks : (backToKw pos (keywordEach kws X.env)).filterMap (·.1) = ks := by rfl)
    (he : starEach (e :: es) X.env = (false, eval e X.env) :: starEach es X.env := by rfl) (hpl : ((backTo pos (starEach (e :: es) X.env)).any (·.1) || (backToKw pos (keywordEach kws X.env)).any (·.1.isNone)) = false := by rfl) : EvX X W R (.Call (.Name x' p) (e :: es) kws pos) δ I P := fun σ G H Q hE s hI qx q => ⟨fun pins s0 J0 => by
  refine wpAny_Call_Name_kw (ld_glob J0 hg hm ?_ hdb)
  refine PySem.W.callWith_KW (h₀ := X.base) J0.ok.mod.kin M.kp hall ?_ hpl he
  refine thn ((h σ G H (fun vs H1 => ∀ (st : Shared) (us : List Value), Inv X pins σ H1 st → Vals vs us → wpAny (model X.prog X.w) X.A (evalAll ((backToKw pos (keywordEach kws X.env)).map (·.2)))
    (fun ws st2 => X.K.In st2.heap ∧ wpAny (model X.prog X.w) X.A (call (.ref C) us (((backToKw pos (keywordEach kws X.env)).filterMap (·.1)).zip ws)) (EP X pins σ Q) X.xe st2) X.xe st) hE s hI qx ?_).run pos pins s0 J0) fun us s1 ⟨vs, H1, J1, rv, z⟩ => z s1 us J1 rv
  intro vs ds G1 H1 I1 s1 t1 h1 r1 k st1 us J1 rv
  refine thn ((k σ G1 H1 (fun zs H2 => ∀ (st : Shared) (ws : List Value), Inv X pins σ H2 st → Vals zs ws → X.K.In st.heap ∧ wpAny (model X.prog X.w) X.A (call (.ref C) us (((backToKw pos (keywordEach kws X.env)).filterMap (·.1)).zip ws)) (EP X pins σ Q) X.xe st)
    (hE.mono s1) t1 h1 (qx.mono s1) ?_).run pos pins st1 J1) fun ws s2 ⟨zs, H2, J2, rz, z⟩ => z s2 ws J2 rz
  intro zs dz G2 H2 I2 s2 t2 h2 r2 ⟨hn, hk, hS⟩ st2 ws J2 rz
  refine ⟨J2.kIn, ?_⟩
  rw [hks]
  have J3 := Inv.made (C := C) J2
  have nd : H2 st2.heap.objs.size = none := J2.hok.fresh (Nat.le_refl _)
  have ny : H2 (st2.heap.objs.size + 1) = none := J2.hok.fresh (Nat.le_succ _)
  have dn : st2.heap.objs.size ≠ st2.heap.objs.size + 1 := Nat.ne_of_lt (Nat.lt_succ_self _)
  have rs : Vals (V.ref (st2.heap.objs.size + 1) :: vs) (Value.ref (st2.heap.objs.size + 1) :: us) := .cons rfl rv
  have rel := hb.rel rs rz
  have gd : G2 st2.heap.objs.size = none := t2.free nd
  have gy : G2 (st2.heap.objs.size + 1) = none := t2.free ny
  have ny2 : upd H2 st2.heap.objs.size (.own (st2.heap.objs.size + 1)) (st2.heap.objs.size + 1) = none := by rw [upd_ne (Ne.symm dn)]; exact ny
  have na : ∀ a, ¬ (I2.F a ∧ (a = st2.heap.objs.size + 1 ∨ a = st2.heap.objs.size)) := fun a ha => ha.2.elim (fun e => h2.dom ha.1 (by rw [e]; exact ny)) (fun e => h2.dom ha.1 (by rw [e]; exact nd))
  have hd3 : Hd (I2.and (iSl X.K (st2.heap.objs.size + 1) C st2.heap.objs.size [])) G2 (upd (upd H2 st2.heap.objs.size (.own (st2.heap.objs.size + 1))) (st2.heap.objs.size + 1) (.ins C st2.heap.objs.size [])) := by
    refine Hd.mk2 ((h2.newp nd).newp ny2) ⟨⟨by rw [upd_ne dn, upd_same]; simp, dn, [], .inl ⟨upd_same, rfl⟩, rfl, fun i d z => by simp at z⟩, fun a ha => ?_⟩ na
    rcases ha with e | e
    · subst e; exact gy
    · subst e; exact gd
  refine wpAny_call (make_map (f := f) J2.kIn M.makes M.init (beq_iff_eq.mp M.fn) (codeAny_mono (F.run _ X.stack _ _ ⟨Value.ref (st2.heap.objs.size + 1) :: us, ks.zip ws⟩ _ _ (fun v H3 => v = .non ∧ Q (.ref (st2.heap.objs.size + 1)) H3) (WE W σ) (hr.make C us (ks.zip ws))
    (J3.env0.make C us (ks.zip ws)) (hb.to _ _ ws J3.kIn ?_ ?_) rel ⟨_, G2, gD (.adr (st2.heap.objs.size + 1) :: ds) dz, _, _, same_upd (same_upd t2 gd) gy, hd3, hgD (.cons rfl (r1.mono s2)) r2, hS _ _ na, ?_, ?_⟩) fun r s' hq => ?_))
  · rw [List.length_cons, ← rv.length, r1.length, hn]
  · rw [← rz.length, r2.length, hk]
  · intro v d G' H' I' s3 t3 h3 r3 ⟨ed, fs, eI, pp⟩
    subst ed eI
    obtain ⟨G4, s4, t4, h4, r4⟩ := freeze_sl t3 h3
    exact ⟨r3, q (.ref _) (.slo C fs) G4 H' I2 ((s1.trans s2).trans (s3.trans s4)) t4 h4 r4 pp⟩
  · intro C' dd fs l G' H' I' s3 t3 h3 r3 hx ⟨os, eI, pp⟩
    subst eI
    exact qx C' dd fs l G' H' I2 ((s1.trans s2).trans s3) t3 h3.left r3 hx pp
  · cases r with
    | error e => exact passAt tk σ pins _ _ e s' J3 hq
    | ok fl =>
      cases fl with
      | ret u =>
        obtain ⟨v, H', J4, rv', ev, q3⟩ := J3.after hq
        subst ev
        exact ⟨rv', ⟨V.ref (st2.heap.objs.size + 1), H', J4, rfl, q3⟩⟩
      | next => exact False.elim hq
      | brk => exact False.elim hq
      | cont => exact False.elim hq⟩
end
end DL
set_option Elab.async false
set_option linter.all false
set_option maxRecDepth 100000
set_option maxHeartbeats 4000000
namespace DL
open PySem PySem.Spec PyProof.Rows L2

/-! ### regions: one within another within another; said more loosely -/
def Rc.comp {K : PySem.W.Frag} : Rc K → Rc K → Rc K
  | .here, c' => c'
  | .l c J, c' => .l (c.comp c') J
  | .r J c, c' => .r J (c.comp c')
theorem fill_comp {K : PySem.W.Frag} {I : Iv K} (c' : Rc K) : ∀ c : Rc K, (c.comp c').fill I = c.fill (c'.fill I)
  | .here => rfl
  | .l c J => by show ((c.comp c').fill I).and J = _; rw [fill_comp c' c]; rfl
  | .r J c => by show J.and ((c.comp c').fill I) = _; rw [fill_comp c' c]; rfl
theorem Sub.trans {K : PySem.W.Frag} {I J L : Iv K} (a : Sub I J) (b : Sub J L) : Sub I L := ⟨fun x => (b.F x).trans (a.F x), fun G H h => b.φ G H (a.φ G H h)⟩
theorem Sub.assoc {K : PySem.W.Frag} {I J L : Iv K} : Sub ((I.and J).and L) (I.and (J.and L)) := ⟨fun a => ⟨fun h => h.elim (fun z => .inl (.inl z)) fun z => z.elim (fun z => .inl (.inr z)) .inr, fun h => h.elim (fun z => z.elim .inl fun z => .inr (.inl z)) fun z => .inr (.inr z)⟩,
  fun G H h => ⟨h.1.1, ⟨h.1.2.1, h.2.1, fun a ha => h.2.2 a ⟨.inr ha.1, ha.2⟩⟩, fun a ha => ha.2.elim (fun z => h.1.2.2 a ⟨ha.1, z⟩) fun z => h.2.2 a ⟨.inl ha.1, z⟩⟩⟩
theorem Sub.comm {K : PySem.W.Frag} {I J : Iv K} : Sub (I.and J) (J.and I) := ⟨fun a => ⟨Or.symm, Or.symm⟩, fun G H h => ⟨h.2.1, h.1, fun a ha => h.2.2 a ⟨ha.2, ha.1⟩⟩⟩
section
variable {X : Cx} {W : WX} {R : Rx X.K} {a b e o : Expr} {es : List Expr} {sts : List Stmt} {st : Stmt} {δ : DEnv} {I I' : Iv X.K} {P P' : D → Iv X.K → Prop} {pos p : Pos} {d z : D} {x' : Str} {κ : Ko X.K}
/-- a region said more loosely ahead | behind -/
theorem EvX.sub (s : Sub I I') (h : EvX X W R e δ I' P) : EvX X W R e δ I P := fun σ G H Q hE sm hI qx q => h σ G H Q hE sm (hI.sub s) qx q
theorem SX.sub (s : Sub I I') (h : SX X W sts δ I' κ) : SX X W sts δ I κ := fun σ G H E hE sm hI k => h σ G H E hE sm (hI.sub s) k
theorem EvX.reg (h : EvX X W R e δ I P') (k : ∀ d I', P' d I' → ∃ I'', Sub I' I'' ∧ P d I'') : EvX X W R e δ I P := fun σ G H Q hE sm hI qx q => h σ G H Q hE sm hI qx fun v d G' H' I' s1 s2 h1 r p => by
  obtain ⟨I'', s3, p'⟩ := k d I' p
  exact q v d G' H' I'' s1 s2 (h1.sub s3) r p'
theorem SX.eq (e : I = I') (h : SX X W sts δ I' κ) : SX X W sts δ I κ := e ▸ h
/-- a display of a list that may change -/
theorem ev_lstMM (h : EvA X W R es δ I fun ds I1 => ds.length ≤ 1000 ∧ ∀ p, (∀ a, ¬ (I1.F a ∧ a = p)) → P (.adr p) (I1.and (iLst X.K p ds))) : EvX X W R (.List es pos) δ I P := fun σ G H Q hE s hI qx q =>
  PE.wp (pe_lst paC) (h σ G H _ hE s hI qx fun vs ds G1 H1 I1 s1 t1 h1 r1 ⟨hl, hp⟩ => ⟨by rw [r1.length, sizeLine_eq]; omega, fun p hq => by
    have hg : G1 p = none := t1.free hq
    have na : ∀ a, ¬ (I1.F a ∧ a = p) := fun a ha => h1.dom ha.1 (by rw [ha.2]; exact hq)
    exact q (.ref p) (.adr p) G1 _ (I1.and (iLst X.K p ds)) s1 (same_upd t1 hg) (Hd.mk2 (h1.newp hq) ⟨⟨_, upd_same, vs, rfl, r1⟩, fun a ha => by rw [show a = p from ha]; exact hg⟩ na) rfl (hp p na)⟩)
/-! ### what the module's names hold -/
theorem pv_gint {i : Int} (hm : ∃ t, X.mg x' = some (.int i t)) (hg : Gl X x' := by rfl) (hdb : (x' == ("__debug__" : Str)) = false := by decide) : PV X I (.Name x' pos) δ (.int i) := by
  obtain ⟨t, ht⟩ := hm
  exact pv_g (v := .int i) ht ⟨t, rfl⟩ (fun _ => rfl) hg hdb
theorem pv_gstr {w : Str} (hm : ∃ t, X.mg x' = some (.str w t)) (hg : Gl X x' := by rfl) (hdb : (x' == ("__debug__" : Str)) = false := by decide) : PV X I (.Name x' pos) δ (.str w) := by
  obtain ⟨t, ht⟩ := hm
  exact pv_g (v := .str w) ht ⟨t, rfl⟩ (fun _ => rfl) hg hdb
/-- a tuple of plain things -/
structure GTup (K : PySem.W.Frag) (mg : Str → Option Value) (x : Str) (ds : List D) : Prop where
  ex : ∃ a vs, mg x = some (.ref a) ∧ flatDs ds = some vs ∧ ∀ G, SqT K G a vs
theorem reps_flat {K : PySem.W.Frag} {G : Hp} : ∀ {ds : List D} {vs : List V}, flatDs ds = some vs → Reps K G ds vs
  | [], vs, h => by
    have e : ([] : List V) = vs := Option.some.inj h
    rw [← e]
    exact rfl
  | d :: ds, vs, h => by
    unfold flatDs at h
    cases h1 : flatD d with
    | none => rw [h1] at h; cases h
    | some u =>
      cases h2 : flatDs ds with
      | none => rw [h1, h2] at h; cases h
      | some us =>
        rw [h1, h2] at h
        have e := Option.some.inj h
        rw [← e]
        refine ⟨u, us, rfl, ?_, reps_flat h2⟩
        cases d <;> first | (cases h1; rfl) | cases h1
theorem pv_gtup {ds : List D} (hm : GTup X.K X.mg x' ds) (hg : Gl X x' := by rfl) (hdb : (x' == ("__debug__" : Str)) = false := by decide) : PV X I (.Name x' pos) δ (.tup ds) := by
  obtain ⟨a, vs, h1, h2, h3⟩ := hm.ex
  exact pv_g (v := .ref a) h1 rfl (fun G => ⟨a, vs, rfl, h3 G, reps_flat h2⟩) hg hdb
theorem pv_gref {a : Addr} (hm : X.mg x' = some (.ref a)) (hg : Gl X x' := by rfl) (hdb : (x' == ("__debug__" : Str)) = false := by decide) : PV X I (.Name x' pos) δ (.adr a) := pv_g (v := .ref a) hm rfl (fun _ => rfl) hg hdb
end
/-- a text, or plain and no text -/
theorem str_or (d : D) {t : String} (h : tyD d = some t) : (∃ s, d = .str s) ∨ (kitB t "str" = some false ∧ ∀ s, d ≠ .str s) := by
  cases d with
  | str s => exact .inl ⟨s, rfl⟩
  | non => cases h; exact .inr ⟨by decide +kernel, fun s z => nomatch z⟩
  | bl b => cases h; exact .inr ⟨by decide +kernel, fun s z => nomatch z⟩
  | int i => cases h; exact .inr ⟨by decide +kernel, fun s z => nomatch z⟩
  | tup _ => cases h; exact .inr ⟨by decide +kernel, fun s z => nomatch z⟩
  | lst _ => cases h; exact .inr ⟨by decide +kernel, fun s z => nomatch z⟩
  | lsf _ => cases h; exact .inr ⟨by decide +kernel, fun s z => nomatch z⟩
  | dic _ _ => cases h; exact .inr ⟨by decide +kernel, fun s z => nomatch z⟩
  | _ => cases h
/-! ### the law's own draws, as specs -/
/-- a source of draws of a script -/
def sMix {K : PySem.W.Frag} (m : Int) : Spec K := fun I ds P _ => ∃ (ns : List Int) (seed : Int), ds = [.lsf (ns.map D.int), .int seed] ∧ ns.length ≤ 63 ∧ ∀ a b, P (.adr a) (I.and (iDr K a b))
/-- a number below a bound -/
def sNext {K : PySem.W.Frag} : Spec K := fun I ds P _ => ∃ (a b : Addr) (c : Rc K) (n : Int), ds = [.adr a, .int n] ∧ I = c.fill (iDr K a b) ∧ 0 < n ∧ n < 1000000000 ∧ ∀ k : Int, 0 ≤ k → k < n → P (.int k) I
end DL
namespace DL
open PySem PySem.Spec PyProof.Rows L2
section
variable {X : Cx} {W : WX} {R : Rx X.K} {elt tg iter c : Expr} {ifs : List Expr} {scope : Scope} {δ : DEnv} {I : Iv X.K} {pos : Pos} {ds : List D}
theorem take_snoc {α : Type} {l : List α} {i : Nat} {x : α} (h : l[i]? = some x) : l.take (i + 1) = l.take i ++ [x] := by
  have hl := (List.getElem?_eq_some_iff.mp h).1
  rw [List.take_succ, h]
  rfl
theorem fm_yes (f : D → D) (t : D → Bool) {i : Nat} {d : D} {ys : List D} (hd : ds[i]? = some d) (e : ys = ((ds.take i).filter t).map f) (h : true = t d) : ys ++ [f d] = ((ds.take (i + 1)).filter t).map f := by
  rw [take_snoc hd, List.filter_append, List.map_append, ← e, List.filter_cons_of_pos h.symm]
  rfl
theorem fm_no (f : D → D) (t : D → Bool) {i : Nat} {d : D} {ys : List D} (hd : ds[i]? = some d) (e : ys = ((ds.take i).filter t).map f) (h : false = t d) : ys = ((ds.take (i + 1)).filter t).map f := by
  rw [take_snoc hd, List.filter_append, List.map_append, ← e, List.filter_cons_of_neg (by rw [← h]; simp)]
  simp
theorem fm_end (f : D → D) (t : D → Bool) {ys : List D} (e : ys = ((ds.take ds.length).filter t).map f) : ys = (ds.filter t).map f := by
  rw [List.take_length] at e
  exact e
theorem m_more (f : D → D) {i : Nat} {d : D} {ys : List D} (hd : ds[i]? = some d) (e : ys = (ds.take i).map f) : ys ++ [f d] = (ds.take (i + 1)).map f := by
  rw [take_snoc hd, List.map_append, ← e]
  rfl
theorem m_end (f : D → D) {ys : List D} (e : ys = (ds.take ds.length).map f) : ys = ds.map f := by
  rw [List.take_length] at e
  exact e
/-- [f x for x in ds if t x], for good -/
theorem pv_lcIf (f : D → D) (t : D → Bool) (own : List (Str × Nat)) (δ' : D → DEnv) (hi : PVI X I tg iter δ ds) (hz : ds.length ≤ 1000000)
    (hb : ∀ (d : D) (s : Shared) (H : Hp) (C : Addr) (cl : List (Str × Addr)) (fp : List Addr), BindD (X.blk s H scope (compEnvC scope cl C X.env) fp) tg d (wipeD δ (own.map (·.2))) (δ' d) (own.map (·.2)))
    (ht : ∀ d, d ∈ ds → ∀ (J : Iv X.K) (s : Shared) (H : Hp) (C : Addr) (cl : List (Str × Addr)) (fp : List Addr), PVT (X.blk s H scope (compEnvC scope cl C X.env) fp) (I.and J) c (δ' d) (t d))
    (he : ∀ d, d ∈ ds → t d = true → ∀ (J : Iv X.K) (s : Shared) (H : Hp) (C : Addr) (cl : List (Str × Addr)) (fp : List Addr), PV (X.blk s H scope (compEnvC scope cl C X.env) fp) (I.and J) elt (δ' d) (f d))
    (hN : X.N.Nodup := by assumption) (ok : blkC X.N X.env.scope scope own = true := by rfl)
    (hc : X.calm = true := by rfl) (hs : ∀ x, foldedSetIterable iter X.env x = pure x := by intro _; rfl) : PV X I (.ListComp elt [⟨tg, iter, [c], 0⟩] scope pos) δ (.lst ((ds.filter t).map f)) := fun W R P p =>
  ev_lc own hN (blkOk_by ok) (hi W R _ ⟨hz, fun i ys => ys = ((ds.take i).filter t).map f, δ', rfl, fun i d ys hd e => ⟨fun b => b = t d, fun J s H C cl fp => ⟨hb d s H C cl fp, ets_one (ht d (List.mem_of_getElem? hd) J s H C cl fp _ _ _ ⟨rfl, rfl⟩)⟩, fun e2 J s H C cl fp => he d (List.mem_of_getElem? hd) (Eq.symm e2) J s H C cl fp _ _ _ ⟨rfl, fm_yes f t hd e e2⟩, fun e2 => fm_no f t hd e e2⟩, fun ys e => fm_end f t e ▸ p⟩) hc hs
theorem pv_lcMap (f : D → D) (own : List (Str × Nat)) (δ' : D → DEnv) (hi : PVI X I tg iter δ ds) (hz : ds.length ≤ 1000000)
    (hb : ∀ (d : D) (s : Shared) (H : Hp) (C : Addr) (cl : List (Str × Addr)) (fp : List Addr), BindD (X.blk s H scope (compEnvC scope cl C X.env) fp) tg d (wipeD δ (own.map (·.2))) (δ' d) (own.map (·.2)))
    (he : ∀ d, d ∈ ds → ∀ (J : Iv X.K) (s : Shared) (H : Hp) (C : Addr) (cl : List (Str × Addr)) (fp : List Addr), PV (X.blk s H scope (compEnvC scope cl C X.env) fp) (I.and J) elt (δ' d) (f d))
    (hN : X.N.Nodup := by assumption) (ok : blkC X.N X.env.scope scope own = true := by rfl)
    (hc : X.calm = true := by rfl) (hs : ∀ x, foldedSetIterable iter X.env x = pure x := by intro _; rfl) : PV X I (.ListComp elt [⟨tg, iter, [], 0⟩] scope pos) δ (.lst (ds.map f)) := fun W R P p =>
  ev_lc own hN (blkOk_by ok) (hi W R _ ⟨hz, fun i ys => ys = (ds.take i).map f, δ', rfl, fun i d ys hd e => ⟨fun b => b = true, fun J s H C cl fp => ⟨hb d s H C cl fp, ets_nil ⟨rfl, rfl⟩⟩, fun _ J s H C cl fp => he d (List.mem_of_getElem? hd) J s H C cl fp _ _ _ ⟨rfl, m_more f hd e⟩, fun e2 => nomatch (show false = true from e2)⟩, fun ys e => m_end f e ▸ p⟩) hc hs
end
theorem pn_isiT {K : PySem.W.Frag} {I : Iv K} {d : D} {t u : String} (h : tyD d = some t) (hb : kitB t u = some true := by decide +kernel) : PN K I (rIsi K) [d, .ty u] (.bl true) := pn_isi h hb
theorem pn_isiF {K : PySem.W.Frag} {I : Iv K} {d : D} {t u : String} (h : tyD d = some t) (hb : kitB t u = some false) : PN K I (rIsi K) [d, .ty u] (.bl false) := pn_isi h hb
end DL
namespace DL
open PySem PySem.Spec PyProof.Rows L2
section
variable {X : Cx} {W : WX} {a b c : Expr} {rest : List Expr} {sts els : List Stmt} {δ : DEnv} {I : Iv X.K} {pos : Pos} {κ : Ko X.K}
theorem ww_orT (h : PVT X I a δ true) : PVW X I (.BoolOp .Or (a :: b :: rest) pos) δ true := fun W R P p => ew_or (h W R _ p)
theorem ww_orF {k : Bool} (h : PVT X I a δ false) (h2 : PVW X I (.BoolOp .Or (b :: rest) pos) δ k) : PVW X I (.BoolOp .Or (a :: b :: rest) pos) δ k := fun W R P p => ew_or (h W R _ (h2 W R P p))
theorem ww_andF (h : PVT X I a δ false) : PVW X I (.BoolOp .And (a :: b :: rest) pos) δ false := fun W R P p => ew_and (h W R _ p)
theorem ww_andT {k : Bool} (h : PVT X I a δ true) (h2 : PVW X I (.BoolOp .And (b :: rest) pos) δ k) : PVW X I (.BoolOp .And (a :: b :: rest) pos) δ k := fun W R P p => ew_and (h W R _ (h2 W R P p))
theorem pv_andF (h : PV X I a δ (.bl false)) : PV X I (.BoolOp .And (a :: b :: rest) pos) δ (.bl false) := pv_and h (fun z => nomatch z) fun _ => rfl
theorem pv_andT {z : D} (h : PV X I a δ (.bl true)) (h2 : PV X I (.BoolOp .And (b :: rest) pos) δ z) : PV X I (.BoolOp .And (a :: b :: rest) pos) δ z := pv_and h (fun _ => h2) fun z => nomatch z
theorem pv_orT (h : PV X I a δ (.bl true)) : PV X I (.BoolOp .Or (a :: b :: rest) pos) δ (.bl true) := pv_or h (fun z => nomatch z) fun _ => rfl
theorem pv_orF {z : D} (h : PV X I a δ (.bl false)) (h2 : PV X I (.BoolOp .Or (b :: rest) pos) δ z) : PV X I (.BoolOp .Or (a :: b :: rest) pos) δ z := pv_or h (fun _ => h2) fun z => nomatch z
theorem s_ifT (h : PVT X I c δ true) (h1 : SX X W sts δ I κ) : S1 X W (.If c sts els pos) δ I κ := s_ifP h (fun _ => h1) fun z => nomatch z
theorem s_ifF (h : PVT X I c δ false) (h1 : SX X W els δ I κ) : S1 X W (.If c sts els pos) δ I κ := s_ifP h (fun z => nomatch z) fun _ => h1
end
end DL
set_option Elab.async false
set_option linter.all false
set_option maxRecDepth 100000
set_option maxHeartbeats 4000000
namespace DL
open PySem PySem.Spec PyProof.Rows L2

/-! ### facts of the written part, by a look -/
def oeB (K : PySem.W.Frag) (C : Addr) : Bool := (match K.lookup C with
  | some ⟨.type "type", _, .cls cd, sl⟩ => (match cd.mro, sl.toList with
    | .ref C' :: bm, [_, _, _, _, some (.builtin n), _] => C' == C && n == "ValueError.__new__" && !cd.hasDel && cd.hasDict && HandSPX.refsVE bm
    | _, _ => false)
  | _ => false) && He.eqO (PySem.W.findIn K (.ref C) "__setattr__") (some (some (.builtin "object.__setattr__"))) && decide (PySem.W.subIn K (.ref C) (.type "BaseException") = some true) && decide (PySem.W.typeIn K (.ref C) = some (.type "type")) && PySem.W.keepIn K (.ref C)
theorem oeB_ok {K : PySem.W.Frag} {C : Addr} (h : oeB K C = true) : OexC K C := by
  unfold oeB at h
  obtain ⟨h, h5⟩ := Bool.and_eq_true_iff.mp h
  obtain ⟨h, h4⟩ := Bool.and_eq_true_iff.mp h
  obtain ⟨h, h3⟩ := Bool.and_eq_true_iff.mp h
  obtain ⟨h1, h2⟩ := Bool.and_eq_true_iff.mp h
  refine ⟨?_, He.eqO_ok h2, of_decide_eq_true h3, of_decide_eq_true h4, h5⟩
  split at h1
  · rename_i dd cd sl e
    split at h1
    · rename_i C' bm k0 k1 k2 k3 n k5 em es
      simp only [Bool.and_eq_true, beq_iff_eq, Bool.not_eq_true'] at h1
      obtain ⟨⟨⟨⟨e1, e2⟩, e3⟩, e4⟩, e5⟩ := h1
      obtain ⟨nm, bs, mro, ns, qn, hd, sn, sb, ab, col, del⟩ := cd
      dsimp only at em e3 e4
      subst e1 e2 e3 e4 em
      have esl : sl = #[k0, k1, k2, k3, some (.builtin "ValueError.__new__"), k5] := by
        apply Array.ext'
        rw [es]
      subst esl
      exact ⟨_, _, _, _, bm, _, _, _, _, _, _, _, _, _, _, e, e5⟩
    · cases h1
  · cases h1
def scB (K : PySem.W.Frag) (C : Addr) : Bool := PySem.W.plainGet K C Str.empty && PySem.W.isClsIn K C && PySem.W.plainOver K C && He.eqO (PySem.W.findIn K (.ref C) "__setattr__") (some (some (.builtin "object.__setattr__")))
theorem scB_ok {K : PySem.W.Frag} {C : Addr} (h : scB K C = true) : SlX.SCls K C := by
  obtain ⟨h, h4⟩ := Bool.and_eq_true_iff.mp h
  obtain ⟨h, h3⟩ := Bool.and_eq_true_iff.mp h
  obtain ⟨h1, h2⟩ := Bool.and_eq_true_iff.mp h
  exact ⟨h1, h2, h3, He.eqO_ok h4⟩
def slB (K : PySem.W.Frag) (C : Addr) (f : Str) (i : Nat) : Bool := He.eqO (PySem.W.findIn K (.ref C) f) (some (some (.ref (He.ma K C f)))) && He.eqO (PySem.W.specialIn K (.ref (He.ma K C f)) "__get__") (some (some (.builtin "member_descriptor.__get__"))) &&
  decide (PySem.W.takesIn K (.ref (He.ma K C f)) = some true) && decide (PySem.W.typeIn K (.ref (He.ma K C f)) = some (.type "member_descriptor")) && decide (PySem.W.slotIn K (He.ma K C f) C = some i) && decide (i < 1000)
theorem slB_ok {K : PySem.W.Frag} {C : Addr} {f : Str} {i : Nat} (h : slB K C f i = true) : SlX.Slot1 K C f (He.ma K C f) i := by
  obtain ⟨h, h6⟩ := Bool.and_eq_true_iff.mp h
  obtain ⟨h, h5⟩ := Bool.and_eq_true_iff.mp h
  obtain ⟨h, h4⟩ := Bool.and_eq_true_iff.mp h
  obtain ⟨h, h3⟩ := Bool.and_eq_true_iff.mp h
  obtain ⟨h1, h2⟩ := Bool.and_eq_true_iff.mp h
  exact ⟨He.eqO_ok h1, He.eqO_ok h2, of_decide_eq_true h3, of_decide_eq_true h4, of_decide_eq_true h5, of_decide_eq_true h6⟩
/-- an error's class and its __init__ -/
structure TExc (K : PySem.W.Frag) (mg : Str → Option Value) (x : Str) : Prop where
  g : mg x = some (.ref (He.ga K x))
  oe : OexC K (He.ga K x)
  iC : PySem.W.findIn K (.ref (He.ga K x)) "__init__" = some (some (.ref (He.ma K (He.ga K x) "__init__")))
  tI : PySem.W.typeIn K (.ref (He.ma K (He.ga K x) "__init__")) = some (.type "function")
def exB (K : PySem.W.Frag) (x : Str) : Bool := He.eqO (PySem.W.nsIn K mainGlobals x) (some (some (.ref (He.ga K x)))) && oeB K (He.ga K x) && He.eqO (PySem.W.findIn K (.ref (He.ga K x)) "__init__") (some (some (.ref (He.ma K (He.ga K x) "__init__")))) && decide (PySem.W.typeIn K (.ref (He.ma K (He.ga K x) "__init__")) = some (.type "function"))
theorem exB_ok {K : PySem.W.Frag} {h : Heap} {mg : Str → Option Value} (X : K.In h) (G : h.Ns mainGlobals mg) {x : Str} (q : exB K x = true) : TExc K mg x := by
  obtain ⟨q, h4⟩ := Bool.and_eq_true_iff.mp q
  obtain ⟨q, h3⟩ := Bool.and_eq_true_iff.mp q
  obtain ⟨h1, h2⟩ := Bool.and_eq_true_iff.mp q
  exact ⟨PySem.W.mg_of X G (He.eqO_ok h1), oeB_ok h2, He.eqO_ok h3, of_decide_eq_true h4⟩
/-- a tuple of the module's -/
theorem gtup_of {K : PySem.W.Frag} {h : Heap} {mg : Str → Option Value} (X : K.In h) (G : h.Ns mainGlobals mg) {x : Str} {ds : List D} {vs : List He.Dv} (q : He.tupB K x vs = true) (g : He.eqO (PySem.W.nsIn K mainGlobals x) (some (some (.ref (He.ga K x)))) = true) (e : flatDs ds = some (vs.map (He.Dv.v K))) : GTup K mg x ds :=
  ⟨_, _, PySem.W.mg_of X G (He.eqO_ok g), e, fun H => He.tupB_ok q H⟩
/-- texts among texts -/
theorem flatDs_str : ∀ ws : List Str, flatDs (ws.map D.str) = some (ws.map V.str)
  | [] => rfl
  | w :: ws => by
    have ih := flatDs_str ws
    show (match flatD (D.str w), flatDs (ws.map D.str) with | some v, some vs => some (v :: vs) | _, _ => none) = _
    rw [ih]
    rfl
theorem inV_str (s : Str) : ∀ ws : List Str, inV (.str s) (ws.map V.str) = decide (s ∈ ws)
  | [] => by simp [inV]
  | w :: ws => by
    have ih := inV_str s ws
    unfold inV at ih ⊢
    rw [List.map_cons, List.any_cons, ih]
    show (w == s || decide (s ∈ ws)) = decide (s ∈ w :: ws)
    by_cases h : w = s
    · subst h; simp
    · have h2 : ¬ s = w := fun e => h e.symm
      simp [h, h2]
theorem allflat_str (ws : List Str) : (ws.map V.str).all flatV = true := by
  rw [List.all_map]
  exact List.all_eq_true.mpr fun _ _ => rfl
theorem p2_inStr {K : PySem.W.Frag} {I : Iv K} {s : Str} {ws : List Str} : P2 K I (rIn K false) (.str s) (.tup (ws.map D.str)) (.bl (decide (s ∈ ws))) :=
  p2_in rfl (flatDs_str ws) rfl (allflat_str ws) (by rw [if_neg Bool.false_ne_true]; exact inV_str s ws) (.inr rfl)
theorem p2_ninStr {K : PySem.W.Frag} {I : Iv K} {s : Str} {ws : List Str} : P2 K I (rIn K true) (.str s) (.tup (ws.map D.str)) (.bl (!decide (s ∈ ws))) :=
  p2_in rfl (flatDs_str ws) rfl (allflat_str ws) (by rw [if_pos rfl, inV_str s ws]) (.inr rfl)
theorem p2_inStrL {K : PySem.W.Frag} {I : Iv K} {s : Str} {ws : List Str} : P2 K I (rIn K false) (.str s) (.lst (ws.map D.str)) (.bl (decide (s ∈ ws))) :=
  p2_in rfl (flatDs_str ws) rfl (allflat_str ws) (by rw [if_neg Bool.false_ne_true]; exact inV_str s ws) (.inl rfl)
theorem p2_ninStrL {K : PySem.W.Frag} {I : Iv K} {s : Str} {ws : List Str} : P2 K I (rIn K true) (.str s) (.lst (ws.map D.str)) (.bl (!decide (s ∈ ws))) :=
  p2_in rfl (flatDs_str ws) rfl (allflat_str ws) (by rw [if_pos rfl, inV_str s ws]) (.inl rfl)
end DL
namespace DL
open PySem PySem.Spec PyProof.Rows L2
/-- a def of the module, by its promise; dds: the defaults that fill up -/
structure Def (P : Program) (w : World) (K : PySem.W.Frag) (mg : Str → Option Value) (base : Heap) (x : Str) (k : Nat) (ps : List Str) (dds : List D) (S : Spec K) : Prop where
  ex : ∃ (f : Addr) (fd : FuncData) (dvs : List V) (us : List Value), mg x = some (.ref f) ∧ PySem.W.keepIn K (.ref f) = true ∧ FnOk P w K mg base (L2.CX P w) k f fd ps (spD K S) ∧ L2.Binds K fd ps us ∧ Vals dvs us ∧ ∀ G, Reps K G dds dvs
section
variable {P : Program} {w : World} {K : PySem.W.Frag} {mg : Str → Option Value} {base : Heap} {x qual : Str} {params : Arguments} {body : List Stmt} {scope : Scope} {f : Addr} {fd : FuncData} {ps : List Str} {k : Nat} {S : Spec K}
theorem Def.of (g : mg x = some (.ref f)) (F : FunD K x qual params body scope [] [] f fd) (ok : FnOk P w K mg base (L2.CX P w) k f fd ps (spD K S))
    (h : ∀ (kV doc pm : Value) (an : Option Addr) (cdv ct : Value) (us : List Value), us.length = ps.length → bindArgs (PySem.W.fnOf x qual params body scope .none kV doc pm an cdv ct) ⟨us, []⟩ = pure (ps.zip us)) : Def P w K mg base x k ps [] S :=
  ⟨f, fd, [], [], g, F.kp, ok, F.bindsN h, .nil, fun _ => rfl⟩
end
section
variable {X : Cx} {W : WX} {R : Rx X.K} {e : Expr} {es : List Expr} {δ : DEnv} {I : Iv X.K} {P : D → Iv X.K → Prop} {pos p : Pos} {x : Str} {ps : List Str} {k : Nat} {S : Spec X.K} {dds : List D} {ds : List D} {d : D}
theorem ev_def (tk : Takes X W) (F : Def X.prog X.w X.K X.mg X.base x k ps dds S) (hr : Room k X.A) (h : EvA X W R (e :: es) δ I fun ds I1 => S I1 (ds ++ dds) P R) (hg : Gl X x := by rfl) (hdb : (x == ("__debug__" : Str)) = false := by decide)
    (he : starEach (e :: es) X.env = (false, eval e X.env) :: starEach es X.env := by rfl) (hpl : (backTo pos (starEach es X.env)).any (·.1) = false := by rfl) : EvX X W R (.Call (.Name x p) (e :: es) [] pos) δ I P := by
  obtain ⟨f, fd, dvs, us, g, kp, ok, b, v, r⟩ := F.ex
  exact ev_callD tk ok hr g kp b v r h hg hdb he hpl
theorem pv_def (F : Def X.prog X.w X.K X.mg X.base x k ps dds S) (hr : Room k X.A) (ha : PVA X I (e :: es) δ ds) (hS : ∀ (P : D → Iv X.K → Prop), P d I → S I (ds ++ dds) P (fun _ _ _ => False)) (hg : Gl X x := by rfl) (hdb : (x == ("__debug__" : Str)) = false := by decide)
    (he : starEach (e :: es) X.env = (false, eval e X.env) :: starEach es X.env := by rfl) (hpl : (backTo pos (starEach es X.env)).any (·.1) = false := by rfl) : PV X I (.Call (.Name x p) (e :: es) [] pos) δ d := by
  obtain ⟨f, fd, dvs, us, g, kp, ok, b, v, r⟩ := F.ex
  exact pv_callD ok hr g kp b v r ha hS hg hdb he hpl
end
end DL
namespace DL
open PySem PySem.Spec PyProof.Rows L2
section
variable {X : Cx} {W : WX} {R : Rx X.K} {e : Expr} {es : List Expr} {δ : DEnv} {I : Iv X.K} {P : D → Iv X.K → Prop} {d : D} {ds : List D}
theorem PV.ev (h : PV X I e δ d) (p : P d I) : EvX X W R e δ I P := h W R P p
theorem PVA.ev {P : List D → Iv X.K → Prop} (h : PVA X I es δ ds) (p : P ds I) : EvA X W R es δ I P := h W R P p
theorem PVT.ev {P : Bool → Iv X.K → Prop} {b : Bool} (h : PVT X I e δ b) (p : P b I) : EvT X W R e δ I P := h W R P p
end
end DL
namespace DL
open PySem PySem.Spec PyProof.Rows L2
section
variable {X : Cx} {W : WX} {R : Rx X.K} {e : Expr} {es : List Expr} {δ : DEnv} {I : Iv X.K} {P : D → Iv X.K → Prop} {d : D} {ds : List D}
theorem ev_reg (h : EvX X W R e δ I fun d I' => ∃ I'', Sub I' I'' ∧ P d I'') : EvX X W R e δ I P := EvX.reg h fun _ _ z => z
theorem iDr_of2 {K : PySem.W.Frag} {J : Iv K} {a b : Addr} {s k m : Int} {ns : List Int} (hl : ns.length ≤ 63) : Sub ((J.and (iLst K b (ns.map D.int))).and (iLst K a [.int s, .adr b, .int k, .int m])) (J.and (iDr K a b)) :=
  Sub.assoc.trans (Sub.andR (Sub.comm.trans (iDr_of hl)))
end
end DL
set_option Elab.async false
set_option linter.all false
set_option maxRecDepth 100000
set_option maxHeartbeats 4000000
namespace DL
open PySem PySem.Spec PyProof.Rows L2

theorem str_ext {s t : Str} (h : s.cps.toList = t.cps.toList) : s = t := by
  obtain ⟨a⟩ := s
  obtain ⟨b⟩ := t
  exact congrArg Str.mk (Array.ext' h)
theorem str_app (s t : Str) : (s ++ t).cps.toList = s.cps.toList ++ t.cps.toList := by
  show (s.cps ++ t.cps).toList = _
  simp
theorem str_len (s : Str) : s.length = s.cps.toList.length := by
  show s.cps.size = _
  simp
def one (c : Nat) : Str := ⟨#[c]⟩
theorem join_ones (e : Str) (he : e.cps.toList = []) : ∀ cs : List Nat, Txt.join e (cs.map one) = ⟨cs.toArray⟩ := by
  intro cs
  rw [TL.join_eq]
  induction cs with
  | nil => rfl
  | cons c cs ih =>
    cases cs with
    | nil => rfl
    | cons d ds =>
      have e1 : Str.join e ((c :: d :: ds).map one) = one c ++ e ++ Str.join e ((d :: ds).map one) := by
        first
          | rfl
          | (simp only [List.map_cons, Str.join]; rfl)
      rw [e1, ih]
      apply str_ext
      rw [str_app, str_app, he]
      show [c] ++ [] ++ _ = _
      simp
section
variable {X : Cx} {W : WX} {R : Rx X.K} {e e0 e1 : Expr} {es : List Expr} {δ : DEnv} {I : Iv X.K} {P : D → Iv X.K → Prop} {d : D} {ds : List D} {pos p : Pos} {a b : Addr} {n k : Int} {K : PySem.W.Frag}
/-- an item of a written list at a drawn place -/
theorem o2_ixL {K : PySem.W.Frag} {I : Iv K} {P : D → Iv K → Prop} {ds : List D} {k : Int} (h0 : 0 ≤ k) (h1 : k < ds.length) (hp : ∀ d ∈ ds, P d I) : Op2 K (rIxL K) (.lst ds) (.int k) I P := by
  obtain ⟨j, rfl⟩ : ∃ j : Nat, k = j := ⟨k.toNat, by omega⟩
  have hj : j < ds.length := by omega
  exact p2_ixL (d := ds[j]) (by unfold atI ixN; rw [if_pos h0, if_pos h1]; simp [hj]) P (hp _ (List.getElem_mem hj))
/-- _law_next(h, n) -/
theorem ev_next {x : Str} (tk : Takes X W) (F : Def X.prog X.w X.K X.mg X.base x 1 ["_law_h", "_law_bound"] [] sNext) (hr : Room 1 X.A) (c : Rc X.K) (h0 : PV X I e0 δ (.adr a)) (h1 : EvX X W R e1 δ I fun d I1 => ∃ n, d = .int n ∧ I1 = I ∧ 0 < n ∧ n < 1000000000 ∧ ∀ k : Int, 0 ≤ k → k < n → P (.int k) I) (eI : I = c.fill (iDr X.K a b))
    (hg : Gl X x := by rfl) (hdb : (x == ("__debug__" : Str)) = false := by decide)
    (he : starEach [e0, e1] X.env = (false, eval e0 X.env) :: starEach [e1] X.env := by rfl) (he2 : starEach [e1] X.env = (false, eval e1 X.env) :: starEach [] X.env := by rfl) (hpl : (backTo pos (starEach [e1] X.env)).any (·.1) = false := by rfl) : EvX X W R (.Call (.Name x p) [e0, e1] [] pos) δ I P :=
  ev_def tk F hr (ea_cons (h0.ev (ea_cons (h1.imp fun d I1 ⟨n, ed, ei, n0, n1, k⟩ => by
    subst ed
    rw [ei]
    exact ea_nil ⟨a, b, c, n, rfl, eI, n0, n1, k⟩) he2)) he) hg hdb he hpl
theorem ev_nextP {x : Str} (tk : Takes X W) (F : Def X.prog X.w X.K X.mg X.base x 1 ["_law_h", "_law_bound"] [] sNext) (hr : Room 1 X.A) (c : Rc X.K) (h0 : PV X I e0 δ (.adr a)) (h1 : PV X I e1 δ (.int n)) (eI : I = c.fill (iDr X.K a b)) (hn : 0 < n ∧ n < 1000000000) (k : ∀ k : Int, 0 ≤ k → k < n → P (.int k) I)
    (hg : Gl X x := by rfl) (hdb : (x == ("__debug__" : Str)) = false := by decide)
    (he : starEach [e0, e1] X.env = (false, eval e0 X.env) :: starEach [e1] X.env := by rfl) (he2 : starEach [e1] X.env = (false, eval e1 X.env) :: starEach [] X.env := by rfl) (hpl : (backTo pos (starEach [e1] X.env)).any (·.1) = false := by rfl) : EvX X W R (.Call (.Name x p) [e0, e1] [] pos) δ I P :=
  ev_next tk F hr c h0 (h1.ev ⟨n, rfl, rfl, hn.1, hn.2, k⟩) eI hg hdb he he2 hpl
end
end DL
set_option Elab.async false
set_option linter.all false
set_option maxRecDepth 100000
set_option maxHeartbeats 4000000
namespace DL
open PySem PySem.Spec PyProof.Rows L2
section
variable {X : Cx} {W : WX} {R : Rx X.K} {st : Stmt} {rest sts els : List Stmt} {δ : DEnv} {I : Iv X.K} {κ : Ko X.K} {c a b : Expr} {pos : Pos} {PB : Bool → Iv X.K → Prop}
/-- a cut: what holds behind the statement -/
theorem s_consI (Nv : DEnv → Iv X.K → Prop) (h : S1 X W st δ I { κ with nx := Nv }) (k : ∀ δ' I', Nv δ' I' → SX X W rest δ' I' κ) : SX X W (st :: rest) δ I κ :=
  s_cons (S1.imp h (fun δ' I' p => k δ' I' p) (fun _ _ z => z) (fun _ _ z => z) (fun _ _ z => z) (fun _ _ _ _ z => z))
end
/-- isinstance of a caught error: the class's looks -/
def xcB (K : PySem.W.Frag) (C : Addr) : Bool := He.eqO (PySem.W.findIn K (.ref C) "__getattribute__") (some (some (.builtin "BaseException.__getattribute__"))) && He.eqO (PySem.W.findIn K (.ref C) "__getattr__") (some none) && decide (PySem.W.subIn K (.ref C) (.type "BaseException") = some true) && PySem.W.hasDictIn K C &&
  He.eqO (PySem.W.findIn K (.ref C) "__class__") (some (some (.builtin "object.__class__"))) && He.eqO (PySem.W.specialIn K (.builtin "object.__class__") "__get__") (some (some (.builtin "getset_descriptor.__get__"))) && decide (PySem.W.takesIn K (.builtin "object.__class__") = some true) && decide (PySem.W.mroIn K C (.type "object") = some true)
theorem xcB_ok {K : PySem.W.Frag} {C : Addr} (h : xcB K C = true) : ExcC K C := by
  obtain ⟨h, h8⟩ := Bool.and_eq_true_iff.mp h
  obtain ⟨h, h7⟩ := Bool.and_eq_true_iff.mp h
  obtain ⟨h, h6⟩ := Bool.and_eq_true_iff.mp h
  obtain ⟨h, h5⟩ := Bool.and_eq_true_iff.mp h
  obtain ⟨h, h4⟩ := Bool.and_eq_true_iff.mp h
  obtain ⟨h, h3⟩ := Bool.and_eq_true_iff.mp h
  obtain ⟨h1, h2⟩ := Bool.and_eq_true_iff.mp h
  exact ⟨He.eqO_ok h1, He.eqO_ok h2, of_decide_eq_true h3, h4, He.eqO_ok h5, He.eqO_ok h6, of_decide_eq_true h7, of_decide_eq_true h8⟩
/-- an error's class, its field's name not found in the class: as it is caught -/
structure TXf (K : PySem.W.Frag) (C : Addr) : Prop where
  xf : XfC K C
  xc : ExcC K C
def txB (K : PySem.W.Frag) (C : Addr) : Bool := xfB K C && xcB K C
theorem txB_ok {K : PySem.W.Frag} {C : Addr} (h : txB K C = true) : TXf K C := by
  obtain ⟨h1, h2⟩ := Bool.and_eq_true_iff.mp h
  exact ⟨xfB_ok h1, xcB_ok h2⟩
theorem namesG {X : Cx} {x : Str} {c : Value} (hm : X.mg x = some c) (hg : Gl X x := by rfl) (hdb : (x == ("__debug__" : Str)) = false := by decide) : Names X x c := ⟨hg, hdb, .inl hm⟩
end DL
set_option Elab.async false
set_option linter.all false
set_option maxRecDepth 100000
set_option maxHeartbeats 4000000
namespace DL
open PySem PySem.Spec PyProof.Rows L2
section
variable {X : Cx} {W : WX} {R : Rx X.K} {e e0 e1 l : Expr} {es : List Expr} {δ : DEnv} {I : Iv X.K} {P : D → Iv X.K → Prop} {PB : Bool → Iv X.K → Prop} {d : D} {ds : List D} {pos p ps : Pos} {a b : Addr} {n k m : Int} {x : Str} {c : Rc X.K} {κ : Ko X.K} {sts els : List Stmt}
/-- _law_next(h, n) == m -/
theorem et_nextEq (tk : Takes X W) (F : Def X.prog X.w X.K X.mg X.base x 1 ["_law_h", "_law_bound"] [] sNext) (hr : Room 1 X.A) (c : Rc X.K) (h0 : PV X I e0 δ (.adr a)) (h1 : PV X I e1 δ (.int n)) (hm : PV X I l δ (.int m)) (eI : I = c.fill (iDr X.K a b)) (hn : 0 < n ∧ n < 1000000000) (q : ∀ b, PB b I)
    (hg : Gl X x := by rfl) (hdb : (x == ("__debug__" : Str)) = false := by decide)
    (he : starEach [e0, e1] X.env = (false, eval e0 X.env) :: starEach [e1] X.env := by rfl) (he2 : starEach [e1] X.env = (false, eval e1 X.env) :: starEach [] X.env := by rfl) (hpl : (backTo pos (starEach [e1] X.env)).any (·.1) = false := by rfl) : EvT X W R (.Compare (.Call (.Name x p) [e0, e1] [] pos) [.Eq] [l] ps) δ I PB :=
  et_cmp op_eq (ev_nextP tk F hr c h0 h1 eI hn (fun k _ _ => hm.ev (eqV_int k m _ ⟨_, rfl, q _⟩)) hg hdb he he2 hpl)
/-- .. as a test -/
theorem s_ifNext (tk : Takes X W) (F : Def X.prog X.w X.K X.mg X.base x 1 ["_law_h", "_law_bound"] [] sNext) (hr : Room 1 X.A) (c : Rc X.K) (h0 : PV X I e0 δ (.adr a)) (h1 : PV X I e1 δ (.int n)) (hm : PV X I l δ (.int m)) (eI : I = c.fill (iDr X.K a b)) (hn : 0 < n ∧ n < 1000000000) (y1 : SX X W sts δ I κ) (y2 : SX X W els δ I κ)
    (hg : Gl X x := by rfl) (hdb : (x == ("__debug__" : Str)) = false := by decide)
    (he : starEach [e0, e1] X.env = (false, eval e0 X.env) :: starEach [e1] X.env := by rfl) (he2 : starEach [e1] X.env = (false, eval e1 X.env) :: starEach [] X.env := by rfl) (hpl : (backTo pos (starEach [e1] X.env)).any (·.1) = false := by rfl) : S1 X W (.If (.Compare (.Call (.Name x p) [e0, e1] [] pos) [.Eq] [l] ps) sts els p') δ I κ :=
  s_if (et_nextEq tk F hr c h0 h1 hm eI hn (fun b => by cases b; exact y2; exact y1) hg hdb he he2 hpl)
/-- xs[_law_next(h, n)] -/
theorem ev_pick (tk : Takes X W) (F : Def X.prog X.w X.K X.mg X.base x 1 ["_law_h", "_law_bound"] [] sNext) (hr : Room 1 X.A) (c : Rc X.K) (hl : PV X I l δ (.lst ds)) (h0 : PV X I e0 δ (.adr a)) (h1 : EvX X W R e1 δ I fun d I1 => ∃ n : Int, d = .int n ∧ I1 = I ∧ 0 < n ∧ n < 1000000000 ∧ n ≤ ds.length) (eI : I = c.fill (iDr X.K a b)) (k : ∀ d ∈ ds, P d I)
    (hg : Gl X x := by rfl) (hdb : (x == ("__debug__" : Str)) = false := by decide)
    (he : starEach [e0, e1] X.env = (false, eval e0 X.env) :: starEach [e1] X.env := by rfl) (he2 : starEach [e1] X.env = (false, eval e1 X.env) :: starEach [] X.env := by rfl) (hpl : (backTo pos (starEach [e1] X.env)).any (·.1) = false := by rfl) (hs : PlainIx (.Call (.Name x p) [e0, e1] [] pos) := by exact fun _ _ => rfl) : EvX X W R (.Subscript l (.Call (.Name x p) [e0, e1] [] pos) ps) δ I P :=
  ev_ix ix_list (hl.ev (ev_next tk F hr c h0 (h1.imp fun d I1 ⟨n, ed, ei, n0, n1, n2⟩ => ⟨n, ed, ei, n0, n1, fun k' k0 k1 => o2_ixL k0 (by omega) k⟩) eI hg hdb he he2 hpl)) hs
end
theorem mulOk1 {x : Str} {n : Int} (h : MulOk x n := by exact ⟨by decide +kernel, fun _ _ => by decide +kernel, fun _ _ => by decide +kernel⟩) : MulOk x n := h
theorem mulOkN {x : Str} {n : Int} (h1 : x.length ≤ 1000) (h2 : 0 ≤ n) (h3 : n ≤ 1000) : MulOk x n := by
  refine ⟨?_, fun h4 _ => ?_, fun h4 _ => ?_⟩
  · simp only [Bool.or_eq_false_iff, decide_eq_false_iff_not]; omega
  · have e : (1000 : Int) ≤ (2 ^ 63 - 1) / n := (Int.le_ediv_iff_mul_le (by omega)).mpr (by omega)
    omega
  · have e : x.length * n.toNat ≤ 1000 * 1000 := Nat.mul_le_mul h1 (by omega)
    unfold Builtin.Str.tooLong
    simp only [decide_eq_false_iff_not]
    have := sizeLine_eq
    omega
def okVB : D → Bool
  | .str s => decide (s.length ≤ 100000)
  | .slo _ _ => false
  | .exc _ _ _ _ _ => false
  | .adr _ => false
  | .ty _ => false
  | .dic _ _ => false
  | _ => true
end DL
set_option Elab.async false
set_option linter.all false
set_option maxRecDepth 100000
set_option maxHeartbeats 4000000
namespace DL
open PySem PySem.Spec PyProof.Rows L2
/-- the law: of every script True -/
def sLaw {K : PySem.W.Frag} : Spec K := fun I ds P R => ∃ ns : List Int, ds = [.lsf (ns.map D.int)] ∧ ns.length ≤ 63 ∧ ∀ I', P (.bl true) I'
theorem repsInt {K : PySem.W.Frag} {G : Hp} : ∀ ns : List Int, Reps K G (ns.map D.int) (ns.map V.int)
  | [] => rfl
  | n :: ns => ⟨.int n, ns.map V.int, rfl, rfl, repsInt ns⟩
theorem sp_law {K : PySem.W.Frag} {H : Hp} {a : Addr} {ns : List Int} (hl : ns.length ≤ 63) (hS : SqL K H a (ns.map V.int)) : spD K sLaw [.ref a] H (fun v _ => v = .bl true) (fun _ _ _ => False) :=
  ⟨iEmp K, H, [.lsf (ns.map D.int)], fun d _ => d = .bl true, fun _ _ _ => False, Same.refl H, Hd.emp, ⟨.ref a, [], rfl, ⟨a, _, rfl, hS, repsInt ns⟩, rfl⟩, ⟨ns, rfl, hl, fun _ => rfl⟩, fun v d _ _ _ _ _ _ r e => by subst e; exact r, fun _ _ _ _ _ _ _ _ _ _ _ _ z => z⟩
theorem cx0 {P : Program} {w : World} {H : Hp} {s s' : Shared} {e : Value} (z : L2.CX P w [] H s (fun _ _ _ => False) e s') : False := by
  obtain ⟨_, _, _, _, _, _, _, _, _, _, _, _, h⟩ := z
  exact h
section
variable {X : Cx} {W : WX} {st : Stmt} {rest : List Stmt} {κ : Ko X.K}
/-- a family of states: one statement stays within it -/
theorem s_consF {α : Type} (Nv : α → Prop) (δf : α → DEnv) {J : Iv X.K} (h : ∀ x, Nv x → S1 X W st (δf x) J { κ with nx := fun δ' I' => I' = J ∧ ∃ y, Nv y ∧ δ' = δf y }) (k : ∀ x, Nv x → SX X W rest (δf x) J κ) : ∀ x, Nv x → SX X W (st :: rest) (δf x) J κ := fun x hx =>
  s_consI (fun δ' I' => I' = J ∧ ∃ y, Nv y ∧ δ' = δf y) (h x hx) fun δ' I' ⟨e1, y, hy, e2⟩ => by
    subst e1 e2
    exact k y hy
end
end DL
set_option Elab.async false
set_option linter.all false
set_option maxRecDepth 100000
set_option maxHeartbeats 1000000
namespace DL
open PySem PySem.Spec PyProof.Rows L2

theorem reps_rev {K : PySem.W.Frag} {G : Hp} : ∀ {ds : List D} {vs : List V}, Reps K G ds vs → Reps K G ds.reverse vs.reverse
  | [], vs, h => by
    rw [show vs = [] from h]
    exact rfl
  | d :: ds, _, ⟨v, r, e, r1, r2⟩ => by
    rw [e, List.reverse_cons, List.reverse_cons]
    exact (reps_rev r2).append (Reps.one r1)
/-! ### == of data at any depth -/
mutual
def pyD : D → PyData
  | .bl b => .bool b
  | .int i => .int i
  | .str s => .str s
  | .tup ds => .tuple (pyDs ds)
  | .lst ds => .list (pyDs ds)
  | .lsf ds => .list (pyDs ds)
  | _ => .none
def pyDs : List D → List PyData
  | [] => []
  | d :: ds => pyD d :: pyDs ds
end
mutual
def okPy : D → Bool
  | .non => true
  | .bl _ => true
  | .int _ => true
  | .str _ => true
  | .tup ds => okPys ds
  | .lst ds => okPys ds
  | .lsf ds => okPys ds
  | _ => false
def okPys : List D → Bool
  | [] => true
  | d :: ds => okPy d && okPys ds
end
mutual
theorem dp_of {K : PySem.W.Frag} {G H : Hp} (s : Same G H) : ∀ {d : D} {v : V}, okPy d = true → Rep K G d v → Dp K H v (pyD d)
  | .non, _, _, r => by rw [show _ = V.non from r]; exact .non
  | .bl b, _, _, r => by rw [show _ = V.bl b from r]; exact .bl b
  | .int i, _, _, r => by rw [show _ = V.int i from r]; exact .int i
  | .str x, _, _, r => by rw [show _ = V.str x from r]; exact .str x
  | .tup ds, _, h, ⟨a, vs, e1, e2, e3⟩ => by rw [e1]; exact .tup (sqT_mono s e2) (dps_of s h e3)
  | .lst ds, _, h, ⟨a, vs, e1, e2, e3⟩ => by rw [e1]; exact .lst (SqL.of (s _ _ e2)) (dps_of s h e3)
  | .lsf ds, _, h, ⟨a, vs, e1, e2, e3⟩ => by rw [e1]; exact .lst (sqL_mono s e2) (dps_of s h e3)
  | .ty _, _, h, _ => by cases h
  | .adr _, _, h, _ => by cases h
  | .slo _ _, _, h, _ => by cases h
  | .exc _ _ _ _ _, _, h, _ => by cases h
  | .dic _ _, _, h, _ => by cases h
  | .tub _, _, h, _ => by cases h
theorem dps_of {K : PySem.W.Frag} {G H : Hp} (s : Same G H) : ∀ {ds : List D} {vs : List V}, okPys ds = true → Reps K G ds vs → DpAll K H vs (pyDs ds)
  | [], _, _, r => by rw [show _ = [] from r]; exact .nil
  | d :: ds, _, h, ⟨v, r, e1, e2, e3⟩ => by
    have h2 : (okPy d && okPys ds) = true := h
    obtain ⟨ha, hb⟩ := Bool.and_eq_true_iff.mp h2
    rw [e1]
    exact .cons (dp_of s ha e2) (dps_of s hb e3)
end
def okEq (d : D) : Bool := okPy d && SeqAt.shaped (pyD d)
section
variable {K : PySem.W.Frag} {I : Iv K} {x y z d : D}
theorem p2_eqD (hx : okEq x = true) (hy : okEq y = true) : P2 K I (rEqD K) x y (.bl (PyData.eqv (pyD x) (pyD y))) := fun P p G H v w Q s hI r1 r2 q => by
  obtain ⟨a1, a2⟩ := Bool.and_eq_true_iff.mp hx
  obtain ⟨b1, b2⟩ := Bool.and_eq_true_iff.mp hy
  exact ⟨_, _, dp_of s a1 r1, dp_of s b1 r2, a2, b2, q _ (.bl _) G H I (Same.refl G) s hI rfl p⟩
theorem p2_neD (hx : okEq x = true) (hy : okEq y = true) : P2 K I (rNeD K) x y (.bl (!PyData.eqv (pyD x) (pyD y))) := fun P p G H v w Q s hI r1 r2 q => by
  obtain ⟨a1, a2⟩ := Bool.and_eq_true_iff.mp hx
  obtain ⟨b1, b2⟩ := Bool.and_eq_true_iff.mp hy
  exact ⟨_, _, dp_of s a1 r1, dp_of s b1 r2, a2, b2, q _ (.bl _) G H I (Same.refl G) s hI rfl p⟩
end
/-! ### slotted instances: their properties, len, ==, isinstance -/
/-- the property f of the class at C: its getter at g -/
structure PropC (K : PySem.W.Frag) (C : Addr) (f : Str) (p g : Addr) : Prop where
  at_ : PySem.W.findIn K (.ref C) f = some (some (.ref p))
  get : PySem.W.specialIn K (.ref p) "__get__" = some (some (.builtin "property.__get__"))
  tk : PySem.W.takesIn K (.ref p) = some true
  rc : ∃ rest, PySem.W.recIn K p "property" = some (.ref g :: rest)
/-- where the getter stands -/
def gtr (K : PySem.W.Frag) (C : Addr) (f : Str) : Addr := match PySem.W.recIn K (He.ma K C f) "property" with
  | some (.ref g :: _) => g
  | _ => 0
def prB (K : PySem.W.Frag) (C : Addr) (f : Str) : Bool := He.eqO (PySem.W.findIn K (.ref C) f) (some (some (.ref (He.ma K C f)))) && He.eqO (PySem.W.specialIn K (.ref (He.ma K C f)) "__get__") (some (some (.builtin "property.__get__"))) && decide (PySem.W.takesIn K (.ref (He.ma K C f)) = some true) &&
  (match PySem.W.recIn K (He.ma K C f) "property" with
  | some (.ref g :: _) => true
  | _ => false)
theorem prB_ok {K : PySem.W.Frag} {C : Addr} {f : Str} (h : prB K C f = true) : PropC K C f (He.ma K C f) (gtr K C f) := by
  obtain ⟨h, h4⟩ := Bool.and_eq_true_iff.mp h
  obtain ⟨h, h3⟩ := Bool.and_eq_true_iff.mp h
  obtain ⟨h1, h2⟩ := Bool.and_eq_true_iff.mp h
  refine ⟨He.eqO_ok h1, He.eqO_ok h2, of_decide_eq_true h3, ?_⟩
  unfold gtr
  split at h4
  · rename_i g r e
    rw [e]
    exact ⟨r, rfl⟩
  · cases h4
/-- what isinstance asks of the class at C -/
def siB (K : PySem.W.Frag) (C : Addr) : Bool := He.eqO (PySem.W.findIn K (.ref C) "__class__") (some (some (.builtin "object.__class__"))) && He.eqO (PySem.W.specialIn K (.builtin "object.__class__") "__get__") (some (some (.builtin "getset_descriptor.__get__"))) && decide (PySem.W.takesIn K (.builtin "object.__class__") = some true) && decide (PySem.W.mroIn K C (.type "object") = some true)
theorem siB_ok {K : PySem.W.Frag} {C : Addr} (h : siB K C = true) : SlX.SIsi K C := by
  obtain ⟨h, h4⟩ := Bool.and_eq_true_iff.mp h
  obtain ⟨h, h3⟩ := Bool.and_eq_true_iff.mp h
  obtain ⟨h1, h2⟩ := Bool.and_eq_true_iff.mp h
  exact ⟨He.eqO_ok h1, He.eqO_ok h2, of_decide_eq_true h3, of_decide_eq_true h4⟩
abbrev F0 {K : PySem.W.Frag} : Rx K := fun _ _ _ => False
theorem cxF {P : Program} {w : World} {outer : List Env} {H : Hp} {s s' : Shared} {e : Value} (z : L2.CX P w outer H s (fun _ _ _ => False) e s') : False := by
  obtain ⟨_, _, _, _, _, _, _, _, _, _, _, _, h⟩ := z
  exact h
theorem spD_of {K : PySem.W.Frag} {S : Spec K} {I : Iv K} {G H : Hp} {ds : List D} {vs : List V} {Q : VK} {P : D → Iv K → Prop} (s : Same G H) (h : Hd I G H) (r : Reps K G ds vs) (k : S I ds P F0) (q : Kv K Q G P) : spD K S vs H Q (fun _ _ _ => False) :=
  ⟨I, G, ds, P, F0, s, h, r, k, q, fun _ _ _ _ _ _ _ _ _ _ _ _ z => z⟩
section
variable {X : Cx} {W : WX} {R : Rx X.K} {I : Iv X.K} {e a b : Expr} {δ : DEnv} {pos : Pos} {C p g : Addr} {f : Str} {n : Nat} {S : Spec X.K} {fs : List D} {d d2 : D} {P : D → Iv X.K → Prop}
/-- e.f, a property -/
theorem pv_prop (c : SlX.SCls X.K C) (pr : PropC X.K C f p g) (F : FnR X.prog X.w X.K X.mg X.base (L2.CX X.prog X.w) n g (spD X.K S)) (hr : Room (n + 1) X.A) (he : PV X I e δ (.slo C fs)) (hS : ∀ P : D → Iv X.K → Prop, P d I → S I [.slo C fs] P F0)
    (hb : attributeBase e f X.env (eval e X.env) = eval e X.env := by rfl) : PV X I (.Attribute e f pos) δ d := fun W R P pp σ G H Q hE s hI qx q =>
  PE.wp (SlX.pe_propSl (E := fun _ _ _ => False) peC c pr.at_ pr.get pr.tk pr.rc F hr (fun _ _ _ _ z => cxF z) hb) (he W R (fun z I1 => z = .slo C fs ∧ I1 = I) ⟨rfl, rfl⟩ σ G H _ hE s hI qx fun v d1 G1 H1 I1 s1 t1 h1 r1 ⟨ed, ei⟩ => by
    subst ed ei
    obtain ⟨a, dx, vs, e1, e2, e3⟩ := r1
    exact ⟨a, dx, vs.map some, e1, slt_mono t1 e2, spD_of (ds := [.slo C fs]) t1 h1 ⟨.ref a, [], rfl, ⟨a, dx, vs, rfl, e2, e3⟩, rfl⟩ (hS P pp) (q.mono s1)⟩)
/-- len(x), an own __len__ -/
def rLenOwn (K : PySem.W.Frag) (C : Addr) (sp : Sp) (E : XK) : List V → Hp → VK → Prop := fun xs H Q => ∃ a dx vs, xs = [.ref a] ∧ SlX.Slt H a C dx vs ∧ sp [.ref a] H (fun v H' => ∃ k : Nat, v = .int k ∧ (k : Int) < 2 ^ 63 ∧ Q (.int k) H') E
theorem call_lenOwn {sp : Sp} {E : XK} {CX : CXT} (hs : PySem.W.findIn X.K (.ref C) "__len__" = some (some (.ref g))) (hf : PySem.W.isFn X.K (.ref g) = true) (F : FnR X.prog X.w X.K X.mg X.base CX n g sp) (hr : Room (n + 1) X.A) (hx : Passes CX X E) : CallR X (.builtin "len") (rLenOwn X.K C sp E) := by
  intro pins s σ H xs us Q J r h
  obtain ⟨x, dx, vs, rfl, hsl, q⟩ := h
  rw [Vals.ref1 r]
  obtain ⟨sl, od, _, O, _⟩ := SlX.slt_inst J hsl
  obtain ⟨m, hF⟩ := J.fr
  refine PySem.W.len_K hF J.ok.mod.kin O hs hf (wpAny_mono (wpAny_call (SlX.run_at (us := [.ref x]) (ws := [.ref x]) F hr.in1 J.env0.in1 hx J (.cons rfl .nil) q)) (fun w s' z => ?_) fun _ _ x => x)
  obtain ⟨z', H', J', rz, k, ez, hk, qz⟩ := z
  subst ez
  obtain ⟨t, e⟩ := (show ∃ t, w = Value.int k t from rz)
  subst e
  exact ⟨⟨Int.natCast_nonneg k, hk⟩, .int k, H', J'.tok _, ⟨_, rfl⟩, qz⟩
theorem pn_lenOwn {k : Nat} (hk : (k : Int) < 2 ^ 63) (hS : ∀ P : D → Iv X.K → Prop, P (.int k) I → S I [.slo C fs] P F0) : PN X.K I (rLenOwn X.K C (spD X.K S) (fun _ _ _ => False)) [.slo C fs] (.int k) := fun P pp G H vs Q s hI ⟨v, r, e1, ⟨a, dx, ws, e2, e3, e4⟩, e5⟩ q =>
  ⟨a, dx, ws.map some, by rw [e1, e2, show r = [] from e5], slt_mono s e3, spD_of (ds := [.slo C fs]) s hI ⟨.ref a, [], rfl, ⟨a, dx, ws, rfl, e3, e4⟩, rfl⟩ (hS (fun d I' => d = .int k ∧ I' = I) ⟨rfl, rfl⟩) fun v d G' H' I' s1 t1 h1 r1 ⟨ed, ei⟩ => by
    subst ed ei
    exact ⟨k, r1, hk, q _ (.int k) G' H' I' s1 t1 h1 rfl pp⟩⟩
/-- x == y, x an instance with an own __eq__, y of a built-in type -/
def rOwnT (K : PySem.W.Frag) (C : Addr) (sp : Sp) (E : XK) : R2 := fun x y H Q => ∃ a dx vs t, x = .ref a ∧ SlX.Slt H a C dx vs ∧ TyX K H y t ∧ PySem.W.notFirst K C t = true ∧ sp [x, y] H Q E
theorem op_ownT {op : CmpOp} {sp : Sp} {E : XK} {CX : CXT} (hop : ∀ a b, compareOp op a b = richCompare op a b) (hs : PySem.W.findIn X.K (.ref C) (cmpInfo op).2.1 = some (some (.ref g))) (hf : PySem.W.isFn X.K (.ref g) = true) (F : FnR X.prog X.w X.K X.mg X.base CX n g sp)
    (hr : Room n X.A) (hx : Passes CX X E) : OpR X (compareOp op) (rOwnT X.K C sp E) := by
  intro pins s σ H x y v u Q J rx ry h
  obtain ⟨a, dx, vs, t, rfl, ha, ht, hn, q⟩ := h
  cases (show v = Value.ref a from rx)
  obtain ⟨sl, od, _, O, _⟩ := SlX.slt_inst J ha
  obtain ⟨P, kx, hp, _⟩ := L2.kit_of J ry ht
  obtain ⟨m, hF⟩ := J.fr
  rw [hop]
  refine PySem.W.cmp_K (op := op) (tb := t) hr.units0 hF J.ok.mod.kin O (kx.ty _ _ J.kIn hp) hn hs hf ?_
  refine wpAny_mono (wpAny_call (run_fnR (us := [.ref a, u]) (vs := [.ref a, y]) F hr hx J (.cons rfl (.cons ry .nil)) q)) (fun w s' z => ?_) fun _ _ x => x
  obtain ⟨z', H', I', rz, qz⟩ := z
  exact SlX.cmpback rz ⟨z', H', I', rz, qz⟩
theorem p2_ownT {t : String} {z : D} (ht : tyD d = some t) (hn : PySem.W.notFirst X.K C (.type t) = true) (hS : ∀ P : D → Iv X.K → Prop, P z I → S I [.slo C fs, d] P F0) : P2 X.K I (rOwnT X.K C (spD X.K S) (fun _ _ _ => False)) (.slo C fs) d z := fun P pp G H v w Q s hI ⟨a, dx, ws, e2, e3, e4⟩ r2 q =>
  ⟨a, dx, ws.map some, .type t, e2, slt_mono s e3, tyX_of s r2 ht, hn, spD_of (ds := [.slo C fs, d]) s hI ⟨v, [w], rfl, ⟨a, dx, ws, e2, e3, e4⟩, w, [], rfl, r2, rfl⟩ (hS P pp) q⟩
/-- .. y an instance -/
theorem p2_own {C' : Addr} {gs : List D} {z : D} (hn : PySem.W.notFirst X.K C (.ref C') = true) (hS : ∀ P : D → Iv X.K → Prop, P z I → S I [.slo C fs, .slo C' gs] P F0) : P2 X.K I (SlX.rOwn X.K C (spD X.K S) (fun _ _ _ => False)) (.slo C fs) (.slo C' gs) z := fun P pp G H v w Q s hI ⟨a, dx, ws, e2, e3, e4⟩ ⟨b, dy, us, k2, k3, k4⟩ q =>
  ⟨a, dx, ws.map some, b, C', dy, us.map some, e2, k2, slt_mono s e3, slt_mono s k3, hn, spD_of (ds := [.slo C fs, .slo C' gs]) s hI ⟨v, [w], rfl, ⟨a, dx, ws, e2, e3, e4⟩, w, [], rfl, ⟨b, dy, us, k2, k3, k4⟩, rfl⟩ (hS P pp) q⟩
theorem takesPF : Passes (L2.CX X.prog X.w) X (fun _ _ _ => False) := fun _ _ _ _ _ _ _ z => (cxF z).elim
end
section
variable {K : PySem.W.Frag} {I : Iv K} {C T : Addr} {fs : List D} {d : D} {b : Bool}
/-- isinstance(x, T), T an own class -/
theorem pn_isiSl (c : SlX.SCls K C) (si : SlX.SIsi K C) (hk : PySem.W.kitOne K (.ref C) (.ref T) = some b) : PN K I (SlX.rIsiSl K (.ref T)) [.slo C fs, .adr T] (.bl b) := fun P p G H vs Q s hI ⟨v, r, e1, ⟨a, dx, ws, e2, e3, e4⟩, v2, r2, e5, e6, e7⟩ q =>
  ⟨a, C, dx, ws.map some, .ref T, b, by rw [e1, e2, e5, show v2 = .ref T from e6, show r2 = [] from e7], rfl, fun _ z => z, slt_mono s e3, c, si, hk, q _ (.bl b) G H I (Same.refl G) s hI rfl p⟩
theorem pn_isiO {t : String} (h : tyD d = some t) (hk : PySem.W.kitOne K (.type t) (.ref T) = some b) : PN K I (rIsi K) [d, .adr T] (.bl b) := fun P p G H vs Q s hI ⟨v, r, e1, e2, v2, r2, e3, e4, e5⟩ q =>
  ⟨v, .ref T, .type t, .ref T, b, by rw [e1, e3, show v2 = .ref T from e4, show r2 = [] from e5], .own T, tyX_of s e2 h, hk, q _ (.bl b) G H I (Same.refl G) s hI rfl p⟩
end
end DL
set_option Elab.async false
set_option linter.all false
set_option maxRecDepth 100000
set_option maxHeartbeats 4000000
namespace DL
open PySem PySem.Spec PyProof.Rows L2
/-! ### the head: defs at names and methods, getters of properties, a look -/
def pAd (K : PySem.W.Frag) (p : Str × Option Str) : Addr := gtr K (He.ga K p.1) (p.2.getD Str.empty)
def fnP (K : PySem.W.Frag) (p : Str × Option Str) : He.FnW := match K.lookup (pAd K p) with
  | some ⟨_, _, .func fd, _⟩ => some (fd.name, fd.qualname, fd.params, fd.body, fd.scope, fd.globals, fd.closure, fd.builtins)
  | _ => none
def okP (K : PySem.W.Frag) (d : He.DefD) : Bool := PySem.W.keepIn K (.ref (pAd K d.at_)) && (match K.lookup (pAd K d.at_) with
  | some ⟨_, _, .func fd, _⟩ => PySem.W.codeIn K fd.code d.qual && (He.dflB K fd.defaults (d.dvs K) && He.kwdB K fd.kwdefaults (d.kws K))
  | _ => false)
theorem funP {K : PySem.W.Frag} {d : He.DefD} (e : fnP K d.at_ = d.val) (c : okP K d = true) : ∃ fd, FunD K d.name d.qual d.params d.body d.scope (d.dvs K) (d.kws K) (pAd K d.at_) fd := by
  obtain ⟨kp, c2⟩ := He.ba c
  unfold fnP at e
  cases q : K.lookup (pAd K d.at_) with
  | none =>
    rw [q] at c2
    cases c2
  | some o =>
    obtain ⟨oc, od, dt, osl⟩ := o
    rw [q] at c2 e
    cases dt with
    | func fd =>
      obtain ⟨n1, n2, n3, n4, n5, n6, n7, n8, n9, n10, n11, n12, n13, n14, n15⟩ := fd
      have e2 : (some (n1, n2, n3, n4, n5, n6, n7, n15) : He.FnW) = some (d.name, d.qual, d.params, .stmts d.body, d.scope, mainGlobals, [], builtinsNs) := e
      simp only [Option.some.injEq, Prod.mk.injEq] at e2
      obtain ⟨h1, h2, h3, h4, h5, h6, h7, h8⟩ := e2
      subst h1 h2 h3 h4 h5 h6 h7 h8
      have c3 : (PySem.W.codeIn K n13 d.qual && (He.dflB K n8 (d.dvs K) && He.kwdB K n9 (d.kws K))) = true := c2
      obtain ⟨k1, k2⟩ := He.ba c3
      obtain ⟨k3, k4⟩ := He.ba k2
      exact ⟨_, ⟨oc, od, n8, n9, n10, n11, n12, n13, n14, osl, rfl, q, k1, He.dflB_ok k3, He.kwdB_ok k4⟩, kp⟩
    | _ => cases c2
def exP (gs : List He.DefD) (ex : PySem.W.Frag → Bool) (K : PySem.W.Frag) : Bool := ex K && gs.all fun d => okP K d
abbrev AlP : Type := He.AlX × List He.FnW
def obsP (n : Nat) (fn gs : List He.DefD) (ex : PySem.W.Frag → Bool) (g : Addr → Option Obj) : AlP := (He.obsX n [] fn [] [] (exP gs ex) g, gs.map fun d => fnP (He.frT g (He.asD g n)) d.at_)
structure SaysP (fn gs : List He.DefD) (ex : PySem.W.Frag → Bool) (w : World) (h : Heap) (K : PySem.W.Frag) : Prop where
  x : He.SaysX [] fn [] [] (exP gs ex) w h K
  g : (gs.map fun d => fnP K d.at_) = gs.map He.DefD.val
def hookP (n : Nat) (fn gs : List He.DefD) (ex : PySem.W.Frag → Bool) : PySem.W.Hook where
  α := AlP
  obs := fun s => obsP n fn gs ex s.heap.get?
  val := fun w => (He.valX fn [] w, gs.map He.DefD.val)
  says := fun w h => ∃ K : PySem.W.Frag, K.In h ∧ SaysP fn gs ex w h K
  of := fun _ _ e => ⟨_, He.frT_in, He.saysX_of (congrArg (fun z : AlP => z.1) e), congrArg (fun z : AlP => z.2) e⟩
  keeps := fun _ _ _ ⟨K, hK, c⟩ k => ⟨K, PySem.W.Frag.In.keeps hK k, ⟨⟨c.x.t, c.x.more, (fun _ z => nomatch z), (fun _ z => nomatch z), (fun _ z => nomatch z)⟩, c.g⟩⟩
theorem obsP_eq {n : Nat} {fn gs : List He.DefD} {ex : PySem.W.Frag → Bool} {g : Addr → Option Obj} {s : Shared} (h : ∀ a, g a = s.heap.get? a) : obsP n fn gs ex g = (show AlP from (hookP n fn gs ex).obs s) := by
  have e : g = s.heap.get? := funext h
  rw [e] <;> rfl
section
variable {fn gs : List He.DefD} {ex : PySem.W.Frag → Bool} {w : World} {h : Heap} {K : PySem.W.Frag}
theorem SaysP.more (c : SaysP fn gs ex w h K) : ex K = true := (He.ba c.x.more).1
theorem SaysP.def_ (c : SaysP fn gs ex w h K) (i : Nat) {d : He.DefD} (h : fn[i]? = some d := by rfl) : ∃ fd, FunD K d.name d.qual d.params d.body d.scope (d.dvs K) (d.kws K) (He.fAd K d.at_) fd := c.x.t.d.def_ i h
theorem SaysP.get_ (c : SaysP fn gs ex w h K) (i : Nat) {d : He.DefD} (hd : gs[i]? = some d := by rfl) : ∃ fd, FunD K d.name d.qual d.params d.body d.scope (d.dvs K) (d.kws K) (pAd K d.at_) fd := by
  have c2 := (He.ba c.x.more).2
  have e2 : (gs.map fun d => fnP K d.at_)[i]? = (gs.map He.DefD.val)[i]? := by rw [c.g]
  rw [List.getElem?_map, List.getElem?_map, hd] at e2
  exact funP (Option.some.inj e2) (List.all_eq_true.mp c2 d (List.mem_of_getElem? hd))
end
def dF (x : Str) (st : Stmt) (dfl : List He.Dv := []) (kws : List (Str × He.Dv) := []) : He.DefD := ⟨(x, none), x, x, defArgs st, defBody st, defScope st, dfl, kws⟩
def dM (C m q : Str) (st : Stmt) (dfl : List He.Dv := []) (kws : List (Str × He.Dv) := []) : He.DefD := ⟨(C, some m), m, q, defArgs st, defBody st, defScope st, dfl, kws⟩
end DL
set_option Elab.async false
set_option linter.all false
set_option maxRecDepth 100000
set_option maxHeartbeats 1000000
namespace DL
open PySem PySem.Spec PyProof.Rows L2
/-! ### dicts -/
def KR (K : PySem.W.Frag) (G : Hp) : List (Key × D) → List (Key × V) → Prop
  | [], l => l = []
  | p :: ps, l => ∃ v r, l = (p.1, v) :: r ∧ Rep K G p.2 v ∧ KR K G ps r
def putG {α : Type} (kvs : List (Key × α)) (k : Key) (v : α) : List (Key × α) := if (kvs.any fun kv => decide (kv.1 = k)) = true then kvs.map (fun kv => if kv.1 = k then (kv.1, v) else kv) else kvs ++ [(k, v)]
def getG {α : Type} (kvs : List (Key × α)) (k : Key) : Option α := (kvs.find? fun kv => decide (kv.1 = k)).map (·.2)
def dicD (kds : List (Key × D)) : D := .dic (kds.map (·.1)) (kds.map (·.2))
section
variable {K : PySem.W.Frag} {G G' H : Hp}
theorem KR.mono (s : Same G G') : ∀ {kds : List (Key × D)} {kvs : List (Key × V)}, KR K G kds kvs → KR K G' kds kvs
  | [], _, h => h
  | _ :: _, _, ⟨v, r, e, r1, r2⟩ => ⟨v, r, e, r1.mono s, KR.mono s r2⟩
theorem KR.length : ∀ {kds : List (Key × D)} {kvs : List (Key × V)}, KR K G kds kvs → kvs.length = kds.length
  | [], _, h => by rw [show _ = [] from h]; rfl
  | _ :: _, _, ⟨v, r, e, r1, r2⟩ => by rw [e, List.length_cons, List.length_cons, KR.length r2]
theorem KR.keys : ∀ {kds : List (Key × D)} {kvs : List (Key × V)}, KR K G kds kvs → kvs.map (·.1) = kds.map (·.1)
  | [], _, h => by rw [show _ = [] from h]; rfl
  | _ :: _, _, ⟨v, r, e, r1, r2⟩ => by rw [e, List.map_cons, List.map_cons, KR.keys r2]
theorem KR.vals : ∀ {kds : List (Key × D)} {kvs : List (Key × V)}, KR K G kds kvs → Reps K G (kds.map (·.2)) (kvs.map (·.2))
  | [], _, h => by rw [show _ = [] from h]; exact rfl
  | _ :: _, _, ⟨v, r, e, r1, r2⟩ => by rw [e]; exact ⟨v, _, rfl, r1, KR.vals r2⟩
theorem KR.any (k : Key) : ∀ {kds : List (Key × D)} {kvs : List (Key × V)}, KR K G kds kvs → (kvs.any fun kv => decide (kv.1 = k)) = (kds.any fun kv => decide (kv.1 = k))
  | [], _, h => by rw [show _ = [] from h]; rfl
  | _ :: _, _, ⟨v, r, e, r1, r2⟩ => by rw [e, List.any_cons, List.any_cons, KR.any k r2]
theorem KR.snoc {k : Key} {d : D} {v : V} (rv : Rep K G d v) : ∀ {kds : List (Key × D)} {kvs : List (Key × V)}, KR K G kds kvs → KR K G (kds ++ [(k, d)]) (kvs ++ [(k, v)])
  | [], _, h => by rw [show _ = [] from h]; exact ⟨v, [], rfl, rv, rfl⟩
  | _ :: _, _, ⟨v', r, e, r1, r2⟩ => by rw [e]; exact ⟨v', r ++ [(k, v)], rfl, r1, KR.snoc rv r2⟩
theorem KR.over {k : Key} {d : D} {v : V} (rv : Rep K G d v) : ∀ {kds : List (Key × D)} {kvs : List (Key × V)}, KR K G kds kvs → KR K G (kds.map fun kv => if kv.1 = k then (kv.1, d) else kv) (kvs.map fun kv => if kv.1 = k then (kv.1, v) else kv)
  | [], _, h => by rw [show _ = [] from h]; exact rfl
  | p :: _, _, ⟨v', r, e, r1, r2⟩ => by
    rw [e, List.map_cons, List.map_cons]
    by_cases h : p.1 = k
    · rw [if_pos h, if_pos h]
      exact ⟨v, _, rfl, rv, KR.over rv r2⟩
    · rw [if_neg h, if_neg h]
      exact ⟨v', _, rfl, r1, KR.over rv r2⟩
theorem KR.put {k : Key} {d : D} {v : V} {kds : List (Key × D)} {kvs : List (Key × V)} (h : KR K G kds kvs) (rv : Rep K G d v) : KR K G (putG kds k d) (L2.putK kvs k v) := by
  unfold putG L2.putK
  rw [h.any k]
  split
  · exact h.over rv
  · exact h.snoc rv
theorem KR.get {k : Key} : ∀ {kds : List (Key × D)} {kvs : List (Key × V)}, KR K G kds kvs → (∀ d, getG kds k = some d → ∃ v, L2.valV kvs k = some v ∧ Rep K G d v) ∧ (getG kds k = none → L2.valV kvs k = none)
  | [], _, h => by rw [show _ = [] from h]; exact ⟨(fun d z => nomatch z), (fun _ => rfl)⟩
  | p :: ps, _, ⟨v', r, e, r1, r2⟩ => by
    rw [e]
    by_cases h : p.1 = k
    · have h' : decide (p.1 = k) = true := decide_eq_true h
      refine ⟨fun d z => ?_, fun z => ?_⟩
      · have e2 : p.2 = d := by simpa [getG, List.find?, h'] using z
        exact ⟨v', by simp [L2.valV, List.find?, h'], e2 ▸ r1⟩
      · simp [getG, List.find?, h'] at z
    · have h' : decide (p.1 = k) = false := decide_eq_false h
      have q := KR.get (k := k) r2
      refine ⟨fun d z => ?_, fun z => ?_⟩
      · have z2 : getG ps k = some d := by simpa [getG, List.find?, h'] using z
        obtain ⟨v, e1, e2⟩ := q.1 d z2
        exact ⟨v, by simpa [L2.valV, List.find?, h'] using e1, e2⟩
      · have z2 : getG ps k = none := by simpa [getG, List.find?, h'] using z
        simpa [L2.valV, List.find?, h'] using q.2 z2
theorem zip_pairs {α : Type} : ∀ l : List (Key × α), (l.map (·.1)).zip (l.map (·.2)) = l
  | [] => rfl
  | p :: l => by simp [zip_pairs l]
theorem KR.of_zip : ∀ {ks : List Key} {ds : List D} {vs : List V}, ks.length = ds.length → Reps K G ds vs → KR K G (ks.zip ds) (ks.zip vs)
  | [], [], _, _, _ => rfl
  | k :: ks, d :: ds, _, h, ⟨v, r, e, r1, r2⟩ => by rw [e]; exact ⟨v, ks.zip r, rfl, r1, KR.of_zip (by simpa using h) r2⟩
/-- a dict that changes no more -/
theorem rep_dicD {kds : List (Key × D)} {v : V} : Rep K G (dicD kds) v ↔ ∃ a od kvs, v = .ref a ∧ G a = some (.frz od (.dK kvs)) ∧ KR K G kds kvs := by
  constructor
  · rintro ⟨a, od, vs, e1, e2, e3, e4⟩
    refine ⟨a, od, _, e1, e2, ?_⟩
    have q := KR.of_zip e3 e4
    rw [zip_pairs] at q
    exact q
  · rintro ⟨a, od, kvs, e1, e2, e3⟩
    refine ⟨a, od, kvs.map (·.2), e1, ?_, by simp, e3.vals⟩
    rw [e2, ← e3.keys, zip_pairs]
end
/-- a dict that may change -/
def iDic (K : PySem.W.Frag) (p : Addr) (kds : List (Key × D)) : Iv K := iObj K p (fun G o => ∃ kvs, o = .dK kvs ∧ KR K G kds kvs) fun _ _ _ s ⟨kvs, h1, h2⟩ => ⟨kvs, h1, h2.mono s⟩
def keyD : D → Option Key
  | .int i => some (.inl i)
  | .str s => some (.inr s)
  | _ => none
theorem rep_key {K : PySem.W.Frag} {G : Hp} {d : D} {k : Key} {v : V} (h : keyD d = some k) (r : Rep K G d v) : v = kV k := by
  cases d with
  | int i => cases h; exact r
  | str s => cases h; exact r
  | _ => cases h
section
variable {K : PySem.W.Frag} {G H : Hp} {p : Addr} {kds : List (Key × D)} {c : Rc K} {I : Iv K}
theorem Hd.dic (h : Hd (c.fill (iDic K p kds)) G H) : ∃ kvs, H p = some (.dK kvs) ∧ KR K G kds kvs ∧ G p = none := by
  have q := h.inner
  obtain ⟨o, ho, vs, ev, r⟩ := q.ph
  subst ev
  exact ⟨vs, ho, r, q.fr p rfl⟩
theorem Hd.dicSet {kds' : List (Key × D)} {kvs' : List (Key × V)} (h : Hd (c.fill (iDic K p kds)) G H) (r : KR K G kds' kvs') : Hd (c.fill (iDic K p kds')) G (upd H p (.dK kvs')) :=
  Hd.change (I := iDic K p kds) (I' := iDic K p kds') (fun _ => Iff.rfl) (fun a ha => upd_ne ha) ⟨⟨_, upd_same, kvs', rfl, r⟩, h.inner.fr⟩ h
/-- it is locked for good -/
theorem freeze_dic {od : Obj} {kvs : List (Key × V)} (s : Same G H) (h : Hd (I.and (iDic K p kds)) G H) (hp : H p = some (.dK kvs)) : ∃ G', Same G G' ∧ Same G' (upd H p (.frz od (.dK kvs))) ∧ Hd I G' (upd H p (.frz od (.dK kvs))) ∧ Rep K G' (dicD kds) (.ref p) := by
  obtain ⟨o, ho, vs, ev, rv⟩ := h.right.ph
  subst ev
  rw [hp] at ho
  cases ho
  have gp : G p = none := h.right.fr p rfl
  refine ⟨upd G p (.frz od (.dK kvs)), Evl.Ex.new gp, same_upd2 s, ⟨I.loc G _ H _ (Evl.Ex.new gp) (fun a ha => upd_ne fun e => h.apart a ⟨ha, e⟩) h.left.ph, fun a ha => ?_⟩, rep_dicD.mpr ⟨p, od, kvs, rfl, upd_same, rv.mono (Evl.Ex.new gp)⟩⟩
  rw [upd_ne fun e => h.apart a ⟨ha, e⟩]
  exact h.left.fr a ha
end
section
variable {X : Cx} {sts : List Stmt} {e : Expr} {σ : L2.St} {H : Hp} {E : Ends} {Q : VK} {d : Addr} {u : HO}
theorem wpB_lock (h : H d = some u) (mu : Mut (some u)) (k : ∀ od, wpB X sts E σ (upd H d (.frz od u))) : wpB X sts E σ H := ⟨fun pins s I => by
  obtain ⟨od, I1⟩ := I.lock h mu
  exact (k od).run pins s I1⟩
end
end DL
set_option Elab.async false
set_option linter.all false
set_option maxRecDepth 100000
set_option maxHeartbeats 1000000
namespace DL
open PySem PySem.Spec PyProof.Rows L2
section
variable {X : Cx} {W : WX} {R : Rx X.K} {a b e o i : Expr} {sts : List Stmt} {δ : DEnv} {I : Iv X.K} {P : D → Iv X.K → Prop} {pos ps p2 : Pos} {x : Str} {d y z : D} {p : Addr} {kds : List (Key × D)} {k : Key} {κ : Ko X.K} {n : Nat}
theorem wpE_lock {σ : L2.St} {H : Hp} {Q : VK} (h : wpE X e σ H fun v H' => ∃ d u, H' d = some u ∧ Mut (some u) ∧ ∀ od, Q v (upd H' d (.frz od u))) : wpE X e σ H Q := ⟨fun pins s I => by
  refine thn (h.run pins s I) fun u s' ⟨v, H', I1, r, d, u', hd, mu, q⟩ => ?_
  obtain ⟨od, I2⟩ := I1.lock hd mu
  exact ⟨v, _, I2, r, q od⟩⟩
/-- a new dict, that changes no more from here -/
theorem ev_freezeD (h : EvX X W R e δ I fun d I1 => ∃ p kds I2, d = .adr p ∧ I1 = I2.and (iDic X.K p kds) ∧ P (dicD kds) I2) : EvX X W R e δ I P := fun σ G H Q hE s hI qx q =>
  wpE_lock (h σ G H _ hE s hI qx fun v d G1 H1 I1 s1 t1 h1 r1 ⟨p, kds, I2, ed, ei, pp⟩ => by
    subst ed ei
    obtain ⟨kvs, hp, _, _⟩ := Hd.dic (c := .r I2 .here) h1
    refine ⟨p, .dK kvs, hp, trivial, fun od => ?_⟩
    obtain ⟨G', s2, t2, h2, r2⟩ := freeze_dic (od := od) t1 h1 hp
    have ev : v = .ref p := r1
    subst ev
    exact q _ _ G' _ I2 (s1.trans s2) t2 h2 r2 pp)
theorem sx_freezeD {j : Nat} (hd : δ[j]? = some (some (.adr p))) (h : SX X W sts (δ.set j (some (dicD kds))) I κ) : SX X W sts δ (I.and (iDic X.K p kds)) κ := fun σ G H E hE s hI kk => by
  obtain ⟨kvs, hp, _, _⟩ := Hd.dic (c := .r I .here) hI
  refine wpB_lock hp trivial fun od => ?_
  obtain ⟨G', s1, t1, h1, r⟩ := freeze_dic (od := od) s hI hp
  obtain ⟨v, hv, rv⟩ := hE.2 j _ hd
  have ev : v = .ref p := rv
  subst ev
  have e2 := (hE.mono s1).set (i := j) r
  have e3 : σ.set j (some (.ref p)) = σ := by
    apply List.ext_getElem?
    intro q
    by_cases hj : j = q
    · subst hj
      rw [List.getElem?_set_self (List.getElem?_eq_some_iff.mp hv).1, hv]
    · rw [List.getElem?_set_ne hj]
  rw [e3] at e2
  exact h σ G' _ E e2 t1 h1 (kk.mono s1)
/-- {} -/
theorem ev_dnew (h : ∀ p, (∀ a, ¬ (I.F a ∧ a = p)) → P (.adr p) (I.and (iDic X.K p []))) : EvX X W R (.Dict [] [] pos) δ I P := fun σ G H Q hE s hI qx q =>
  PE.wp pe_dnewK fun p hp => by
    have hg : G p = none := s.free hp
    have na : ∀ a, ¬ (I.F a ∧ a = p) := fun a ha => hI.dom ha.1 (by rw [ha.2]; exact hp)
    exact q (.ref p) (.adr p) G _ (I.and (iDic X.K p [])) (Same.refl G) (same_upd s hg) (Hd.mk2 (hI.newp hp) ⟨⟨_, upd_same, [], rfl, rfl⟩, fun a ha => by rw [show a = p from ha]; exact hg⟩ na) rfl (h p na)
/-- what is read of a dict -/
def DicI (X : Cx) (I : Iv X.K) (d : D) (kds : List (Key × D)) : Prop := d = dicD kds ∨ ∃ p c, d = .adr p ∧ I = Rc.fill c (iDic X.K p kds)
theorem dic_rd (h : DicI X I d kds) {G H : Hp} {v : V} (s : Same G H) (hI : Hd I G H) (r : Rep X.K G d v) : ∃ a kvs, v = .ref a ∧ Rd H a (.dK kvs) ∧ KR X.K G kds kvs := by
  rcases h with e | ⟨p, c, e1, e2⟩
  · subst e
    obtain ⟨a, od, kvs, e1, e2, e3⟩ := rep_dicD.mp r
    exact ⟨a, kvs, e1, .inr ⟨od, s _ _ e2⟩, e3⟩
  · subst e1 e2
    obtain ⟨kvs, hp, r2, _⟩ := hI.dic
    exact ⟨p, kvs, r, .inl hp, r2⟩
theorem pv_dget (hu : X.A.units + 1 < cLine) (dI : DicI X I z kds) (ho : PV X I o δ z) (hi : PV X I i δ y) (hk : keyD y = some k) (hd : getG kds k = some d) (hs : NoSl i := by exact fun _ _ => rfl) : PV X I (.Subscript o i pos) δ d := fun W R P pp σ G H Q hE s hI qx q =>
  PE.wp (pe_dget hu peC peC hs) (ho W R (fun z1 I1 => z1 = z ∧ I1 = I) ⟨rfl, rfl⟩ σ G H _ hE s hI qx fun v d1 G1 H1 I1 s1 t1 h1 r1 ⟨ed, ei⟩ => by
    subst ed ei
    refine hi W R (fun z1 J => z1 = y ∧ J = I1) ⟨rfl, rfl⟩ σ G1 H1 _ (hE.mono s1) t1 h1 (qx.mono s1) fun v2 d2 G2 H2 I2 s2 t2 h2 r2 ⟨ed2, ei2⟩ => ?_
    subst ed2 ei2
    obtain ⟨a, kvs, e1, rd, kr⟩ := dic_rd dI t2 h2 (r1.mono s2)
    obtain ⟨u, e3, e4⟩ := (kr.get (k := k)).1 d hd
    exact ⟨a, u, e1, .inl ⟨kvs, k, rd, rep_key hk r2, e3.symm⟩, q u d G2 H2 _ (s1.trans s2) t2 h2 e4 pp⟩)
/-- k in d -/
theorem pv_din (hu : X.A.units + 1 < cLine) (dI : DicI X I z kds) (hi : PV X I i δ y) (ho : PV X I o δ z) (hk : keyD y = some k) (hm : behindInMarks .In o = false := by rfl) : PV X I (.Compare i [.In] [o] pos) δ (.bl (getG kds k).isSome) := fun W R P pp σ G H Q hE s hI qx q =>
  PE.wp (L2.pe_cmp (pc_din hu peC peC) hm) (hi W R (fun z1 I1 => z1 = y ∧ I1 = I) ⟨rfl, rfl⟩ σ G H _ hE s hI qx fun v d1 G1 H1 I1 s1 t1 h1 r1 ⟨ed, ei⟩ => by
    subst ed ei
    refine ho W R (fun z1 J => z1 = z ∧ J = I1) ⟨rfl, rfl⟩ σ G1 H1 _ (hE.mono s1) t1 h1 (qx.mono s1) fun v2 d2 G2 H2 I2 s2 t2 h2 r2 ⟨ed2, ei2⟩ => ?_
    subst ed2 ei2
    obtain ⟨a, kvs, e1, rd, kr⟩ := dic_rd dI t2 h2 r2
    refine ⟨a, valV kvs k, e1, .inl ⟨kvs, k, rd, rep_key hk (r1.mono s2), rfl⟩, ?_⟩
    have e5 : (valV kvs k).isSome = (getG kds k).isSome := by
      cases h : getG kds k with
      | none => rw [(kr.get (k := k)).2 h]; rfl
      | some d0 =>
        obtain ⟨u, e3, _⟩ := (kr.get (k := k)).1 d0 h
        rw [e3]; rfl
    rw [e5]
    exact q _ (.bl _) G2 H2 _ (s1.trans s2) t2 h2 rfl pp)
theorem pv_dnotin (hu : X.A.units + 1 < cLine) (dI : DicI X I z kds) (hi : PV X I i δ y) (ho : PV X I o δ z) (hk : keyD y = some k) (hm : behindInMarks .NotIn o = false := by rfl) : PV X I (.Compare i [.NotIn] [o] pos) δ (.bl (!(getG kds k).isSome)) := fun W R P pp σ G H Q hE s hI qx q =>
  PE.wp (L2.pe_cmp (pc_dnotin hu peC peC) hm) (hi W R (fun z1 I1 => z1 = y ∧ I1 = I) ⟨rfl, rfl⟩ σ G H _ hE s hI qx fun v d1 G1 H1 I1 s1 t1 h1 r1 ⟨ed, ei⟩ => by
    subst ed ei
    refine ho W R (fun z1 J => z1 = z ∧ J = I1) ⟨rfl, rfl⟩ σ G1 H1 _ (hE.mono s1) t1 h1 (qx.mono s1) fun v2 d2 G2 H2 I2 s2 t2 h2 r2 ⟨ed2, ei2⟩ => ?_
    subst ed2 ei2
    obtain ⟨a, kvs, e1, rd, kr⟩ := dic_rd dI t2 h2 r2
    refine ⟨a, valV kvs k, e1, .inl ⟨kvs, k, rd, rep_key hk (r1.mono s2), rfl⟩, ?_⟩
    have e5 : (valV kvs k).isSome = (getG kds k).isSome := by
      cases h : getG kds k with
      | none => rw [(kr.get (k := k)).2 h]; rfl
      | some d0 =>
        obtain ⟨u, e3, _⟩ := (kr.get (k := k)).1 d0 h
        rw [e3]; rfl
    rw [e5]
    exact q _ (.bl _) G2 H2 _ (s1.trans s2) t2 h2 rfl pp)
/-- d[k] = e -/
theorem s_dput (hu : X.A.units + 1 < cLine) (c : Rc X.K) (he : EvX X W (κ.r δ) e δ I fun d I1 => I1 = c.fill (iDic X.K p kds) ∧ PV X I1 o δ (.adr p) ∧ PV X I1 i δ y ∧ keyD y = some k ∧ kds.length < 100000 ∧ κ.nx δ (c.fill (iDic X.K p (putG kds k d))))
    (hs : swapsWith e (some (.Subscript o i ps)) pos.line X.env = pure false := by rfl) : S1 X W (.Assign [.Subscript o i ps] e pos) δ I κ := fun σ G H E hE s hI kk =>
  PS.wp (ps_dput hu peC peC peC hs) (he σ G H _ hE s hI (kk.kx hE) fun v d1 G1 H1 I1 s1 t1 h1 r1 ⟨ei, ho, hi, hk, hz, nx⟩ => by
    refine ho W (κ.r δ) (fun z1 J => z1 = .adr p ∧ J = I1) ⟨rfl, rfl⟩ σ G1 H1 _ (hE.mono s1) t1 h1 ((kk.kx hE).mono s1) fun v2 d2 G2 H2 I2 s2 t2 h2 r2 ⟨ed2, ei2⟩ => ?_
    subst ed2 ei2
    refine hi W (κ.r δ) (fun z1 J => z1 = y ∧ J = I2) ⟨rfl, rfl⟩ σ G2 H2 _ (hE.mono (s1.trans s2)) t2 h2 ((kk.kx hE).mono (s1.trans s2)) fun v3 d3 G3 H3 I3 s3 t3 h3 r3 ⟨ed3, ei3⟩ => ?_
    subst ed3 ei3
    have h4 : Hd (c.fill (iDic X.K p kds)) G3 H3 := ei ▸ h3
    obtain ⟨kvs, hp, kr, gp⟩ := h4.dic
    have e2 : v2 = .ref p := r2
    subst e2
    refine ⟨p, _, rfl, .inl ⟨kvs, k, hp, rep_key hk r3, by rw [kr.length, sizeLine_eq]; omega, rfl⟩, ?_⟩
    exact kk.nx δ σ G3 _ _ ((s1.trans s2).trans s3) (same_upd t3 gp) (h4.dicSet (kr.put ((r1.mono s2).mono s3))) (hE.mono ((s1.trans s2).trans s3)) nx)
/-- for k in d -/
def keyV : Key → D
  | .inl i => .int i
  | .inr s => .str s
theorem rep_keyV {K : PySem.W.Frag} {G : Hp} (k : Key) : Rep K G (keyV k) (kV k) := by
  cases k <;> exact rfl
theorem walk_dK {K : PySem.W.Frag} {a : Addr} {od : Obj} {kvs : List (Key × V)} {kds : List (Key × D)} {G : Hp} (h : G a = some (.frz od (.dK kvs))) (r : KR K G kds kvs) : WalkD K (Itk a od kvs) (kds.map fun p => keyV p.1) G := by
  have hl : kvs.length = (kds.map fun p => keyV p.1).length := by rw [List.length_map]; exact r.length
  refine ⟨fun i G' H' s1 s2 hi => walk_keys.goes i H' (by omega) ((s1.trans s2) _ _ h), fun G' H' s1 s2 => by rw [← hl]; exact walk_keys.stops H' ((s1.trans s2) _ _ h), fun i G' H' I x H'' s1 s2 hI hi y => ?_⟩
  obtain ⟨eH, k, v, e1, e2⟩ := (walk_keys (d := a) (o := od) (kvs := kvs)).yields i H' x H'' (by omega) ((s1.trans s2) _ _ h) y
  subst eH e2
  refine ⟨G', Same.refl _, s2, hI, fun _ _ z => z, keyV k, ?_, rep_keyV k⟩
  have e3 := r.keys
  have e4 : (kvs.map (·.1))[i]? = some k := by rw [List.getElem?_map, e1]; rfl
  rw [e3, List.getElem?_map] at e4
  rw [List.getElem?_map]
  cases q : kds[i]? with
  | none => rw [q] at e4; cases e4
  | some p0 =>
    rw [q] at e4
    have e5 : p0.1 = k := Option.some.inj e4
    show some (keyV p0.1) = _
    rw [e5]
theorem ei_keys {tg iter : Expr} {PP : List D → Iv X.K → Prop} (h : EvX X W R iter δ I fun d I1 => ∃ kds, d = dicD kds ∧ PP (kds.map fun p => keyV p.1) I1) : EvI X W R tg iter δ I PP := fun σ G H RR hE s hI qx q =>
  PI.wp (pi_keys peC) (h σ G H _ hE s hI qx fun v d G1 H1 I1 s1 t1 h1 r1 ⟨kds, ed, pp⟩ => by
    subst ed
    obtain ⟨a, od, kvs, e1, e2, e3⟩ := rep_dicD.mp r1
    exact ⟨a, od, e1, .inl ⟨kvs, t1 _ _ e2, q _ _ G1 H1 I1 s1 t1 h1 (walk_dK e2 e3) pp⟩⟩)
theorem vi_keys {tg iter : Expr} (h : PV X I iter δ (dicD kds)) : PVI X I tg iter δ (kds.map fun p => keyV p.1) := fun W R P p => ei_keys (h W R _ ⟨kds, rfl, p⟩)
end
end DL
set_option Elab.async false
set_option linter.all false
set_option maxRecDepth 100000
set_option maxHeartbeats 4000000
/-! enumerate over tuples -/
namespace PySem
open Sem (wp)
open AutoSeq1 (wpAny_loadPart')
set_option maxHeartbeats 1000000 in
theorem meets_enumerate_newV {v : Value} {o : Obj} {H : Heap → Prop} (B : Begins v o H) :
    Meets (Builtin.«enumerate.__new__» ⟨[.type "enumerate", v], []⟩) (fun _ R s => H s.heap ∧
      R (.ok (.ret (.ref (s.heap.push o).objs.size))) { s with heap := (s.heap.push o).push { cls := .type "enumerate", data := .fields #[.none, .bool false, .ref s.heap.objs.size, rawInt 0, .none, .none] } }) :=
  .of_wp fun prog w A R s h => by
    obtain ⟨hp, g, d, tk, os⟩ := s; obtain ⟨h1, h⟩ := h
    have hsub := sub_enumerate
    have q1 : ∀ {A' : Around} {E : Value → Shared → Prop} {Q : Value → Shared → Prop}, Q (.ref hp.objs.size) ⟨hp.push o, g, d, tk, os⟩ → wpAny (model prog w) A' (pyIter v) Q E ⟨hp, g, d, tk, os⟩ :=
      fun q => B.iter prog w _ _ ⟨hp, g, d, tk, os⟩ _ h1 q
    wp_walk using q1
    refine wpAny_stack_any fun st => wpAny_pure ?_
    split
    · rename_i c _ _ _ _ _
      cases (c == Value.type "enumerate")
      · wp_walk using q1
        exact ⟨_, rfl, h⟩
      · wp_walk using q1
        exact ⟨_, rfl, h⟩
    · wp_walk using q1
      exact ⟨_, rfl, h⟩
theorem call_enumerate_V {prog : Program} {w : World} {A : Around} {E : Value → Shared → Prop} {s : Shared} {t : Addr} {items : Array Value} {Q : Value → Shared → Prop} (hL : s.heap.IsTuple t items)
    (h : ∀ h', IsEnum h' (s.heap.objs.size + 1) s.heap.objs.size 0 .none → h'.IsTupleIter s.heap.objs.size t 0 → h'.objs.size = s.heap.objs.size + 2 →
      (∀ b o, s.heap.get? b = some o → h'.get? b = some o) → Q (.ref (s.heap.objs.size + 1)) { s with heap := h' }) :
    wpAny (model prog w) A (call (.type "enumerate") [.ref t]) Q E s := by
  have B : Begins (.ref t) { cls := .type "tuple_iterator", data := .fields #[.ref t, .int 0 0] } fun h => h.IsTuple t items :=
    ⟨fun prog w A E s Q hl h => wpAny_pyIter_tuple hl h, fun h h' x hk => x.at fun o e => hk t o e, rfl⟩
  refine callType_new F.called_enumerate (by decide) (F.typeCall_enumerate_1 _) (F.newCall_enumerate_1 _) (fun obj => F.args_object_init_2 obj _) F.entry_enumerate_new
    (meets_enumerate_newV B) ⟨hL, ?_⟩
  have hz : (s.heap.push { cls := .type "tuple_iterator", data := .fields #[.ref t, .int 0 0] }).objs.size = s.heap.objs.size + 1 := Heap.size_push ..
  show _ ∧ _
  rw [hz]
  have he : IsEnum ((s.heap.push { cls := .type "tuple_iterator", data := .fields #[.ref t, .int 0 0] }).push
      { cls := .type "enumerate", data := .fields #[.none, .bool false, .ref s.heap.objs.size, rawInt 0, .none, .none] }) (s.heap.objs.size + 1) s.heap.objs.size 0 .none := by
    have := Heap.get?_push_size (s.heap.push { cls := .type "tuple_iterator", data := .fields #[.ref t, .int 0 0] })
      (o := { cls := .type "enumerate", data := .fields #[.none, .bool false, .ref s.heap.objs.size, rawInt 0, .none, .none] }) rfl
    rw [hz] at this; exact this
  refine ⟨⟨_, he, rfl⟩, h _ he ⟨_, Heap.get?_push_of_some _ (Heap.get?_push_size _ rfl), rfl, rfl⟩ (by rw [Heap.size_push, hz]) fun b o x => Heap.get?_push_of_some _ (Heap.get?_push_of_some _ x)⟩
end PySem
namespace DL
open PySem PySem.Spec PyProof.Rows L2
/-- the tuple at a as it stands at each turn, each item in a new pair -/
def IteT (K : PySem.W.Frag) (a : Addr) : It :=
  ⟨fun i H => ∃ (xs : List V) (x : V), SqT K H a xs ∧ xs[i]? = some x, fun i H v H' => ∃ T x, v = .ref T ∧ H T = none ∧ H' = upd H T (.tup [.int (i : Nat), x]) ∧ ∀ xs, SqT K H a xs → xs[i]? = some x, fun i H => ∃ xs : List V, SqT K H a xs ∧ xs.length ≤ i⟩
theorem turn_enumT {P : Program} {w : World} {K : PySem.W.Frag} {elts : List Expr} {kk : Nat} {tpos : Pos} (a e it : Addr) :
    Turn P w K (.Tuple elts kk tpos) (IteT K a) [e, it] e (fun i h => (∃ old, IsEnum h e it ((i : Nat) : Int) old) ∧ h.IsTupleIter it a i ∧ e ≠ it) where
  mem := by simp
  obj := fun i h st b hb => by
    obtain ⟨⟨old, he⟩, ⟨o, ho, hc, hd⟩, _⟩ := st
    have e' : b = e ∨ b = it := by simpa using hb
    rcases e' with z | z
    · rw [z]; exact ⟨_, he, fun v q => nomatch q⟩
    · rw [z]; exact ⟨o, ho, fun v q => by rw [hd] at q; cases q⟩
  keep := fun i h h' st k => let ⟨⟨old, he⟩, hi, hne⟩ := st; ⟨⟨old, k e (by simp) _ he⟩, hi.at fun o q => k it (by simp) o q, hne⟩
  item := by
    intro X hP hw hK hc i pins s σ H E I hf st hg
    subst hP hw hK
    obtain ⟨⟨old, he⟩, hit, hne⟩ := st
    obtain ⟨xs, x, hq, hx⟩ := hg
    obtain ⟨its, rv, p, hz⟩ := I.tuple hq
    obtain ⟨u, hu, ru⟩ := rv.get hx
    have hel : e < s.heap.objs.size := Heap.lt_size he
    have hil : it < s.heap.objs.size := by obtain ⟨_, q, _⟩ := hit; exact Heap.lt_size q
    have hta : a ≠ it := fun z => by
      subst z
      obtain ⟨o1, h1, c1, _⟩ := hit
      obtain ⟨o2, h2, c2, _⟩ := (show s.heap.IsTuple a its.toArray from p)
      rw [h1] at h2
      cases h2
      rw [c1] at c2
      exact absurd c2 (by decide)
    have hae : e ≠ a := fun z => by
      subst z
      obtain ⟨o2, h2, c2, _⟩ := (show s.heap.IsTuple e its.toArray from p)
      rw [show s.heap.get? e = some _ from he] at h2
      cases h2
      exact absurd (show Value.type "enumerate" = Value.type "tuple" from c2) (by decide)
    have hA : X.A.in1.handled = none := I.ok.hd hc
    refine wpAny_pyNext_enum_itemC (Draws.tuple hA it a hta its.toArray) he ⟨hit, (show s.heap.IsTuple a its.toArray from p)⟩ (List.getElem?_eq_some_iff.mp hu).1 hne (by simp [hne, hae]) fun x' h' tk hP ho hst hT hsz hk => ?_
    have ex : x' = u := by
      have h2 : its.toArray[i]? = some x' := hP
      rw [show its.toArray[i]? = some u by simpa using hu] at h2
      exact (Option.some.inj h2).symm
    subst ex
    refine ⟨_, rfl, wpAny_letOwnedTupleGo_enum (s := { s with heap := h', toks := tk + 1 }) ho fun h'' he' sb => ?_⟩
    have hT2 : h''.get? s.heap.objs.size = some { cls := .type "tuple", data := .seq #[.int i tk, x'] } := (sb.2 _ (Nat.ne_of_gt hel)).trans hT
    have new : ObjOk X.prog X.w (upd H s.heap.objs.size (.tup [.int (i : Nat), x])) h'' s.heap.objs.size (.tup [.int (i : Nat), x]) :=
      ⟨by show 2 ≤ sizeLine; decide, [.int i tk, x'], .cons ⟨_, rfl⟩ (.cons ru .nil), ⟨_, hT2, rfl, _, rfl⟩⟩
    have I1 : Inv X pins σ (upd H s.heap.objs.size (.tup [.int (i : Nat), x])) { s with heap := h'', toks := tk + 1 } :=
      I.turnedNew (ch := [e, it]) (fun b ob hb q => (sb.2 b (fun z => hb (by simp [z]))).trans (hk b ob (fun z => hb (by simp [z])) (fun z => hb (by simp [z])) q)) hf (Nat.le_refl _) new
    refine ⟨.ref s.heap.objs.size, _, I1, rfl, ⟨_, x, rfl, I.hok.fresh (Nat.le_refl _), rfl, fun ys hy => by rw [I.tuple_inj hy hq]; exact hx⟩, ⟨⟨x', ?_⟩, hst.1.at fun o q => (sb.2 it (Ne.symm hne)).trans q, hne⟩, fun b hb => ?_⟩
    · have e1 : ((i + 1 : Nat) : Int) = (i : Int) + 1 := by omega
      rw [e1]; exact he'
    · have hb' : b < s.heap.objs.size := by
        have e' : b = e ∨ b = it := by simpa using hb
        rcases e' with z | z
        · rw [z]; exact hel
        · rw [z]; exact hil
      rw [upd_ne (Nat.ne_of_lt hb')]
      exact (hf b hb).1
  done := by
    intro X hP hw hK hc i pins s σ H E I hf st hg
    subst hP hw hK
    obtain ⟨⟨old, he⟩, hit, hne⟩ := st
    obtain ⟨xs, hq, hx⟩ := hg
    obtain ⟨its, rv, p, hz⟩ := I.tuple hq
    obtain ⟨f0, f1, f2, f3, f4, f5⟩ := hf it (by simp)
    have hl := rv.length
    have hA : X.A.handled = none := I.ok.hd hc
    have hT : s.TypeIs (.ref e) "enumerate" := ⟨_, he, rfl⟩
    unfold pyNext
    refine wpAny_bind (wpAny_attempt (wpAny_callSpecial?_slot (name := Str.ofString "__next__") hT F.slot_enumerate_next
      (wpAny_call_entry F.slot_enumerate_next hT F.entry_enumerate_next ?_ (F.args_enumerate_next_1 _))))
    show wpAny _ _ (field (.ref e) 2 >>= _) _ _ _
    refine wpAny_bind (wpAny_field he rfl (x := .ref it) rfl ?_)
    refine wpAny_bind (wpAny_nextOf_tuple_end hA hit (show s.heap.IsTuple a its.toArray from p) (by simp; omega) fun h' x he' hx' => ?_)
    obtain ⟨o, ho, hc'⟩ := hx'
    refine wpAny_bind (wpAny_isInstance (T := "StopIteration") (b := true) ⟨o, ho, hc'⟩ isSubtype_stop ?_)
    exact wpAny_pure ⟨rfl, I.turned (t' := s.toks) (fun b o hb q => he' b o hb q) f0 f1 f3 f4 f5⟩
  self := fun A i s Q E st h => let ⟨⟨_, he⟩, _⟩ := st; wpAny_pyIter_enum he h
def iEnumT (K : PySem.W.Frag) (ta : TA) : TI := fun σ H R => ta σ H fun vs H1 => ∃ a xs, vs = [.ref a] ∧ SqT K H1 a xs ∧ R (IteT K a) H1
theorem pi_enumT {X : Cx} {e : Expr} {ta : TA} {p pos tpos : Pos} {elts : List Expr} {kk : Nat} (hg : Gl X "enumerate") (hm : X.mg "enumerate" = none) (ha : PA X [e] ta) (hs : starEach [e] X.env = [(false, eval e X.env)] := by rfl) :
    PI X (.Tuple elts kk tpos) (.Call (.Name "enumerate" p) [e] [] pos) (iEnumT X.K ta) := by
  refine ⟨fun pins s σ H R I h => ?_⟩
  refine Call_ (ld_blt I hg hm boot_enumerate (PyProof.Rows.callWith_type1 (thn (ha.run pos pins s σ H _ I h) fun us s1 ⟨vs, H1, I1, r1, q1⟩ => ?_) hs rfl))
  obtain ⟨a, xs, ex, hq, q⟩ := q1
  subst ex
  cases r1 with
  | cons r rr =>
    cases rr
    cases r
    obtain ⟨its, rv, p', hz⟩ := I1.tuple hq
    refine call_enumerate_V (show s1.heap.IsTuple a its.toArray from p') fun h' he hit hsz hk => wpAny_pyIter_enum he ?_
    have I2 : Inv X pins σ H1 { s1 with heap := h' } := I1.kept (t' := s1.toks) hk
    refine ⟨s1.heap.objs.size + 1, [s1.heap.objs.size + 1, s1.heap.objs.size], _, _, H1, rfl, I2, turn_enumT a (s1.heap.objs.size + 1) s1.heap.objs.size, ⟨⟨.none, he⟩, hit, Nat.succ_ne_self _⟩, fun b hb => ?_, q⟩
    have e' : b = s1.heap.objs.size + 1 ∨ b = s1.heap.objs.size := by simpa using hb
    have hle : s1.heap.objs.size ≤ b := by
      rcases e' with z | z
      · rw [z]; exact Nat.le_add_right _ _
      · rw [z]; exact Nat.le_refl _
    exact I1.fpOk hle (I1.hok.fresh hle)
/-! by data -/
def enumD (ds : List D) : List D := (ds.zipIdx).map fun p => .tup [.int p.2, p.1]
theorem enumD_get {ds : List D} {i : Nat} {d : D} (h : ds[i]? = some d) : (enumD ds)[i]? = some (.tup [.int i, d]) := by
  unfold enumD
  rw [List.getElem?_map, List.getElem?_zipIdx, h]
  simp
theorem enumD_len {ds : List D} : (enumD ds).length = ds.length := by unfold enumD; simp
theorem walk_eL {K : PySem.W.Frag} {a : Addr} {ds : List D} {vs : List V} {G : Hp} (h : SqL K G a vs) (r : Reps K G ds vs) : WalkD K (Ite K a) (enumD ds) G := by
  have hl := r.length
  refine ⟨fun i G' H' s1 s2 hi => (walk_enum (K := K) (a := a) (xs := vs)).goes i H' (by rw [enumD_len] at hi; omega) (sqL_mono (s1.trans s2) h), fun G' H' s1 s2 => by rw [enumD_len, ← hl]; exact walk_enum.stops H' (sqL_mono (s1.trans s2) h), fun i G' H' I x H'' s1 s2 hI hi y => ?_⟩
  rw [enumD_len] at hi
  obtain ⟨T, x1, y1, ex, hT, eH, e1, e2⟩ := (walk_enum (K := K) (a := a) (xs := vs)).yields i H' x H'' (by omega) (sqL_mono (s1.trans s2) h) y
  subst ex eH
  cases e1
  obtain ⟨d, hd⟩ : ∃ d, ds[i]? = some d := ⟨ds[i], by simp [hi]⟩
  obtain ⟨v, h1, h2⟩ := r.get hd
  rw [show vs[i]? = some y1 from e2] at h1
  cases h1
  have gT : G' T = none := s2.free hT
  exact ⟨upd G' T (.tup [.int (i : Nat), y1]), Evl.Ex.new gT, same_upd2 s2, hI.keep hT s2, fun b o z => by rw [upd_ne (fun q => by rw [q, hT] at z; cases z)]; exact z, _, enumD_get hd, T, _, rfl, SqT.of upd_same, .cons rfl (.one ((h2.mono s1).mono (Evl.Ex.new gT)))⟩
theorem walk_eT {K : PySem.W.Frag} {a : Addr} {ds : List D} {vs : List V} {G : Hp} (h : SqT K G a vs) (r : Reps K G ds vs) : WalkD K (IteT K a) (enumD ds) G := by
  have hl := r.length
  refine ⟨fun i G' H' s1 s2 hi => ⟨vs, vs[i]'(by rw [enumD_len] at hi; omega), sqT_mono (s1.trans s2) h, by simp⟩, fun G' H' s1 s2 => ⟨vs, sqT_mono (s1.trans s2) h, by rw [enumD_len]; omega⟩, fun i G' H' I x H'' s1 s2 hI hi y => ?_⟩
  rw [enumD_len] at hi
  obtain ⟨T, y1, ex, hT, eH, e2⟩ := y
  subst ex eH
  have e2 := e2 vs (sqT_mono (s1.trans s2) h)
  obtain ⟨d, hd⟩ : ∃ d, ds[i]? = some d := ⟨ds[i], by simp [hi]⟩
  obtain ⟨v, h1, h2⟩ := r.get hd
  rw [e2] at h1
  cases h1
  have gT : G' T = none := s2.free hT
  exact ⟨upd G' T (.tup [.int (i : Nat), y1]), Evl.Ex.new gT, same_upd2 s2, hI.keep hT s2, fun b o z => by rw [upd_ne (fun q => by rw [q, hT] at z; cases z)]; exact z, _, enumD_get hd, T, _, rfl, SqT.of upd_same, .cons rfl (.one ((h2.mono s1).mono (Evl.Ex.new gT)))⟩
section
variable {X : Cx} {W : WX} {R : Rx X.K} {a e : Expr} {δ : DEnv} {I : Iv X.K} {pos p tpos : Pos} {elts : List Expr} {kk : Nat} {ds : List D}
theorem vi_enumL (hm : X.mg "enumerate" = none) (h : PV X I e δ (.lst ds)) (hg : Gl X "enumerate" := by rfl) (hs : starEach [e] X.env = [(false, eval e X.env)] := by rfl) (hs2 : starEach [e] X.env = (false, eval e X.env) :: starEach [] X.env := by rfl) : PVI X I (.Tuple elts kk tpos) (.Call (.Name "enumerate" p) [e] [] pos) δ (enumD ds) := fun W R P pp σ G H RR hE s hI qx q =>
  PI.wp (pi_enum (ta := wpA X [e]) hg hm paC hs) ((va_cons h va_nil hs2) W R (fun es I1 => es = [.lst ds] ∧ I1 = I) ⟨rfl, rfl⟩ σ G H _ hE s hI qx fun vs es G1 H1 I1 s1 t1 h1 r1 ⟨ee, ei⟩ => by
    subst ee ei
    obtain ⟨v, r, rfl, ⟨a, xs, rfl, e2, e3⟩, er⟩ := r1
    rw [show r = [] from er]
    exact ⟨a, xs, rfl, SqL.of (t1 _ _ e2), q _ _ G1 H1 _ s1 t1 h1 (walk_eL (SqL.of e2) e3) pp⟩)
theorem vi_enumT (hm : X.mg "enumerate" = none) (h : PV X I e δ (.tup ds)) (hg : Gl X "enumerate" := by rfl) (hs : starEach [e] X.env = [(false, eval e X.env)] := by rfl) (hs2 : starEach [e] X.env = (false, eval e X.env) :: starEach [] X.env := by rfl) : PVI X I (.Tuple elts kk tpos) (.Call (.Name "enumerate" p) [e] [] pos) δ (enumD ds) := fun W R P pp σ G H RR hE s hI qx q =>
  PI.wp (pi_enumT (ta := wpA X [e]) hg hm paC hs) ((va_cons h va_nil hs2) W R (fun es I1 => es = [.tup ds] ∧ I1 = I) ⟨rfl, rfl⟩ σ G H _ hE s hI qx fun vs es G1 H1 I1 s1 t1 h1 r1 ⟨ee, ei⟩ => by
    subst ee ei
    obtain ⟨v, r, rfl, ⟨a, xs, rfl, e2, e3⟩, er⟩ := r1
    rw [show r = [] from er]
    exact ⟨a, xs, rfl, sqT_mono t1 e2, q _ _ G1 H1 _ s1 t1 h1 (walk_eT e2 e3) pp⟩)
end
end DL
set_option Elab.async false
set_option linter.all false
set_option maxRecDepth 100000
set_option maxHeartbeats 4000000
namespace DL
open PySem PySem.Spec PyProof.Rows L2

/-! ### == of data -/
def eqD (x y : D) : Bool := PyData.eqv (pyD x) (pyD y)
def eqDs : List D → List D → Bool
  | [], [] => true
  | x :: xs, y :: ys => eqD x y && eqDs xs ys
  | _, _ => false
theorem eqvAll_eq : ∀ xs ys : List D, PyData.eqvAll (pyDs xs) (pyDs ys) = eqDs xs ys
  | [], [] => rfl
  | [], _ :: _ => rfl
  | _ :: _, [] => rfl
  | x :: xs, y :: ys => by
    show (PyData.eqv (pyD x) (pyD y) && PyData.eqvAll (pyDs xs) (pyDs ys)) = _
    rw [eqvAll_eq xs ys]; rfl
section
variable {s t : Str} {i j : Int} {a b : Bool} {xs ys : List D}
@[simp] theorem eqD_str : eqD (.str s) (.str t) = decide (s = t) := by
  show (s == t) = _
  exact Bool.eq_iff_iff.mpr (by simp)
@[simp] theorem eqD_int : eqD (.int i) (.int j) = decide (i = j) := by
  show (i == j) = _
  exact Bool.eq_iff_iff.mpr (by simp)
@[simp] theorem eqD_bl : eqD (.bl a) (.bl b) = decide (a = b) := by
  show (a == b) = _
  exact Bool.eq_iff_iff.mpr (by simp)
@[simp] theorem eqD_non : eqD .non .non = true := rfl
@[simp] theorem eqD_tup : eqD (.tup xs) (.tup ys) = eqDs xs ys := eqvAll_eq xs ys
@[simp] theorem eqD_lst : eqD (.lst xs) (.lst ys) = eqDs xs ys := eqvAll_eq xs ys
@[simp] theorem eqD_lstf : eqD (.lst xs) (.lsf ys) = eqDs xs ys := eqvAll_eq xs ys
@[simp] theorem eqD_lsfl : eqD (.lsf xs) (.lst ys) = eqDs xs ys := eqvAll_eq xs ys
@[simp] theorem eqD_tl : eqD (.tup xs) (.lst ys) = false := rfl
@[simp] theorem eqD_lt : eqD (.lst xs) (.tup ys) = false := rfl
@[simp] theorem eqD_tn : eqD (.tup xs) .non = false := rfl
@[simp] theorem eqD_nt : eqD .non (.tup xs) = false := rfl
@[simp] theorem eqD_ln : eqD (.lst xs) .non = false := rfl
@[simp] theorem eqD_nl : eqD .non (.lst xs) = false := rfl
@[simp] theorem eqD_sn : eqD (.str s) .non = false := rfl
@[simp] theorem eqD_ns : eqD .non (.str s) = false := rfl
@[simp] theorem eqD_in : eqD (.int i) .non = false := rfl
@[simp] theorem eqD_ni : eqD .non (.int i) = false := rfl
@[simp] theorem eqD_is : eqD (.int i) (.str s) = false := rfl
@[simp] theorem eqD_si : eqD (.str s) (.int i) = false := rfl
@[simp] theorem eqD_st : eqD (.str s) (.tup xs) = false := rfl
@[simp] theorem eqD_ts : eqD (.tup xs) (.str s) = false := rfl
@[simp] theorem eqD_it : eqD (.int i) (.tup xs) = false := rfl
@[simp] theorem eqD_ti : eqD (.tup xs) (.int i) = false := rfl
@[simp] theorem eqD_sl : eqD (.str s) (.lst xs) = false := rfl
@[simp] theorem eqD_ls : eqD (.lst xs) (.str s) = false := rfl
@[simp] theorem eqD_il : eqD (.int i) (.lst xs) = false := rfl
@[simp] theorem eqD_li : eqD (.lst xs) (.int i) = false := rfl
@[simp] theorem eqDs_nil : eqDs [] [] = true := rfl
@[simp] theorem eqDs_cons {x y : D} : eqDs (x :: xs) (y :: ys) = (eqD x y && eqDs xs ys) := rfl
@[simp] theorem eqDs_nc {y : D} : eqDs [] (y :: ys) = false := rfl
@[simp] theorem eqDs_cn {x : D} : eqDs (x :: xs) [] = false := rfl
end
/-- data that tells the things of a type apart -/
structure Inj {α : Type} (g : α → D) : Prop where
  eq : ∀ a b, eqD (g a) (g b) = true ↔ a = b
theorem Inj.dec {α : Type} [DecidableEq α] {g : α → D} (h : Inj g) (a b : α) : eqD (g a) (g b) = decide (a = b) := Bool.eq_iff_iff.mpr ((h.eq a b).trans (by simp))
theorem Inj.str : Inj D.str := ⟨fun a b => by simp⟩
theorem Inj.int : Inj D.int := ⟨fun a b => by simp⟩
theorem Inj.nat : Inj fun n : Nat => D.int n := ⟨fun a b => by simp only [eqD_int, decide_eq_true_eq]; omega⟩
theorem Inj.eqs {α : Type} {g : α → D} (h : Inj g) : ∀ xs ys : List α, eqDs (xs.map g) (ys.map g) = true ↔ xs = ys
  | [], [] => by simp
  | [], y :: ys => by simp
  | x :: xs, [] => by simp
  | x :: xs, y :: ys => by simp [h.eq x y, h.eqs xs ys]
theorem Inj.lst {α : Type} {g : α → D} (h : Inj g) : Inj fun xs : List α => D.lst (xs.map g) := ⟨fun a b => by simp [h.eqs]⟩
theorem Inj.tup {α : Type} {g : α → D} (h : Inj g) : Inj fun xs : List α => D.tup (xs.map g) := ⟨fun a b => by simp [h.eqs]⟩
theorem Inj.pair {α β : Type} {g : α → D} {k : β → D} (h : Inj g) (h2 : Inj k) : Inj fun x : α × β => D.tup [g x.1, k x.2] := ⟨fun a b => by simp [h.eq, h2.eq, Prod.ext_iff]⟩
theorem Inj.any {α : Type} [DecidableEq α] {g : α → D} (h : Inj g) (x : α) (xs : List α) : (xs.map g).any (fun z => eqD z (g x)) = decide (x ∈ xs) := Bool.eq_iff_iff.mpr (by
  simp only [List.any_map, List.any_eq_true, Function.comp, decide_eq_true_eq]
  exact ⟨fun ⟨y, hy, e⟩ => ((h.eq y x).mp e) ▸ hy, fun hx => ⟨x, hx, (h.eq x x).mpr rfl⟩⟩)

/-! ### data fit for == -/
structure OkD (n : Nat) (d : D) : Prop where
  py : okPy d = true
  cl : (pyD d).canLay0 = true
  dp : (pyD d).depth ≤ n
theorem OkD.okEq {n : Nat} {d : D} (h : OkD n d) (hn : n ≤ 64) : okEq d = true := by
  unfold DL.okEq SeqAt.shaped
  rw [h.py, h.cl, decide_eq_true (Nat.le_trans h.dp hn)]; rfl
theorem OkD.eq8 {d : D} (h : OkD 8 d) : DL.okEq d = true := h.okEq (by decide)
theorem OkD.mono {n m : Nat} {d : D} (h : OkD n d) (hn : n ≤ m) : OkD m d := ⟨h.py, h.cl, Nat.le_trans h.dp hn⟩
theorem OkD.non {n : Nat} : OkD n .non := ⟨rfl, rfl, Nat.zero_le _⟩
theorem OkD.bl {n : Nat} {b : Bool} : OkD n (.bl b) := ⟨rfl, rfl, Nat.zero_le _⟩
theorem OkD.int {n : Nat} {i : Int} : OkD n (.int i) := ⟨rfl, rfl, Nat.zero_le _⟩
theorem OkD.str {n : Nat} {s : Str} (h : PyData.strOk s = true) : OkD n (.str s) := ⟨rfl, h, Nat.zero_le _⟩
theorem okds {n : Nat} : ∀ {ds : List D}, (∀ d ∈ ds, OkD n d) → okPys ds = true ∧ PyData.canLayAll0 (pyDs ds) = true ∧ PyData.depthAll (pyDs ds) ≤ n
  | [], _ => ⟨rfl, rfl, Nat.zero_le _⟩
  | d :: ds, h => by
    obtain ⟨a, b, c⟩ := okds fun e he => h e (List.mem_cons_of_mem _ he)
    have q := h d (List.mem_cons_self ..)
    exact ⟨by show (okPy d && okPys ds) = true; rw [q.py, a]; rfl, by show (PyData.canLay0 (pyD d) && PyData.canLayAll0 (pyDs ds)) = true; rw [q.cl, b]; rfl, Nat.max_le.mpr ⟨q.dp, c⟩⟩
theorem OkD.tup {n : Nat} {ds : List D} (h : ∀ d ∈ ds, OkD n d) : OkD (n + 1) (.tup ds) := ⟨(okds h).1, (okds h).2.1, Nat.succ_le_succ (okds h).2.2⟩
theorem OkD.lst {n : Nat} {ds : List D} (h : ∀ d ∈ ds, OkD n d) : OkD (n + 1) (.lst ds) := ⟨(okds h).1, (okds h).2.1, Nat.succ_le_succ (okds h).2.2⟩
theorem OkD.lsf {n : Nat} {ds : List D} (h : ∀ d ∈ ds, OkD n d) : OkD (n + 1) (.lsf ds) := ⟨(okds h).1, (okds h).2.1, Nat.succ_le_succ (okds h).2.2⟩
theorem OkD.map {α : Type} {n : Nat} {g : α → D} {xs : List α} (h : ∀ x ∈ xs, OkD n (g x)) : ∀ d ∈ xs.map g, OkD n d := fun d hd => by
  obtain ⟨x, hx, rfl⟩ := List.mem_map.mp hd
  exact h x hx
theorem OkD.t1 {n : Nat} {a : D} (h : OkD n a) : OkD (n + 1) (.tup [a]) := .tup (by simp [h])
theorem OkD.t2 {n : Nat} {a b : D} (h : OkD n a) (h2 : OkD n b) : OkD (n + 1) (.tup [a, b]) := .tup (by simp [h, h2])
theorem OkD.t3 {n : Nat} {a b c : D} (h : OkD n a) (h2 : OkD n b) (h3 : OkD n c) : OkD (n + 1) (.tup [a, b, c]) := .tup (by simp [h, h2, h3])
theorem OkD.t4 {n : Nat} {a b c d : D} (h : OkD n a) (h2 : OkD n b) (h3 : OkD n c) (h4 : OkD n d) : OkD (n + 1) (.tup [a, b, c, d]) := .tup (by simp [h, h2, h3, h4])

/-! ### x in tuple, of any depth -/
section
variable {X : Cx}
def rInDT (K : PySem.W.Frag) : R2 := fun x y H Q => ∃ d ds, Dp K H x d ∧ (Dp K H y (.list ds) ∨ Dp K H y (.tuple ds)) ∧ SeqAt.shaped d = true ∧ PyData.canLayAll0 ds = true ∧ Q (.bl (ds.any fun z => PyData.eqv z d)) H
def rNotInDT (K : PySem.W.Frag) : R2 := fun x y H Q => ∃ d ds, Dp K H x d ∧ (Dp K H y (.list ds) ∨ Dp K H y (.tuple ds)) ∧ SeqAt.shaped d = true ∧ PyData.canLayAll0 ds = true ∧ Q (.bl (!ds.any fun z => PyData.eqv z d)) H
theorem op_inDT (hu : X.A.units + 65 < cLine) : OpR X (compareOp .In) (rInDT X.K) := by
  intro pins s σ H x y v u Q I rx ry h
  obtain ⟨d, ds, hd, he, sd, se, q⟩ := h
  obtain ⟨as, r1⟩ := Dp.reads I d x v hd rx
  rcases he with he | he
  · obtain ⟨bs, r2⟩ := Dp.reads I (.list ds) y u he ry
    exact SeqAt.in_list_reads r2 r1 se (SeqAt.canLay_of_shaped sd) (room_in_shaped sd hu) ⟨.bl _, H, I, rfl, q⟩
  · obtain ⟨bs, r2⟩ := Dp.reads I (.tuple ds) y u he ry
    exact SeqAt.in_tuple_reads r2 r1 se (SeqAt.canLay_of_shaped sd) (room_in_shaped sd hu) ⟨.bl _, H, I, rfl, q⟩
theorem op_notInDT (hu : X.A.units + 65 < cLine) : OpR X (compareOp .NotIn) (rNotInDT X.K) := by
  intro pins s σ H x y v u Q I rx ry h
  obtain ⟨d, ds, hd, he, sd, se, q⟩ := h
  obtain ⟨as, r1⟩ := Dp.reads I d x v hd rx
  rcases he with he | he
  · obtain ⟨bs, r2⟩ := Dp.reads I (.list ds) y u he ry
    exact SeqAt.notIn_list_reads r2 r1 se (SeqAt.canLay_of_shaped sd) (room_in_shaped sd hu) ⟨.bl _, H, I, rfl, q⟩
  · obtain ⟨bs, r2⟩ := Dp.reads I (.tuple ds) y u he ry
    exact SeqAt.notIn_tuple_reads r2 r1 se (SeqAt.canLay_of_shaped sd) (room_in_shaped sd hu) ⟨.bl _, H, I, rfl, q⟩
theorem any_py (d : D) : ∀ ds : List D, (pyDs ds).any (fun z => PyData.eqv z (pyD d)) = ds.any fun z => eqD z d
  | [] => rfl
  | e :: ds => by
    show (PyData.eqv (pyD e) (pyD d) || (pyDs ds).any _) = _
    rw [any_py d ds]; rfl
/-- what is walked as items -/
def itemsD : D → Option (List D)
  | .tup ds => some ds
  | .lst ds => some ds
  | .lsf ds => some ds
  | _ => none
theorem items_dp {K : PySem.W.Frag} {G H : Hp} {z : D} {ds : List D} {v : V} (s : Same G H) (hz : itemsD z = some ds) (h : okPys ds = true) (r : Rep K G z v) : Dp K H v (.list (pyDs ds)) ∨ Dp K H v (.tuple (pyDs ds)) := by
  cases z <;> first | cases hz | skip
  · exact .inr (dp_of (d := .tup _) s h r)
  · exact .inl (dp_of (d := .lst _) s h r)
  · exact .inl (dp_of (d := .lsf _) s h r)
theorem p2_inD {K : PySem.W.Frag} {I : Iv K} {x z : D} {ds : List D} {n : Nat} (hz : itemsD z = some ds) (hx : OkD 64 x) (hd : ∀ d ∈ ds, OkD n d) : P2 K I (rInDT K) x z (.bl (ds.any fun y => eqD y x)) := fun P p G H v w Q s hI r1 r2 q =>
  ⟨_, _, dp_of s hx.py r1, items_dp s hz (okds hd).1 r2, (Bool.and_eq_true_iff.mp (hx.okEq (by decide))).2, (okds hd).2.1, by rw [any_py]; exact q _ (.bl _) G H I (Same.refl G) s hI rfl p⟩
theorem p2_ninD {K : PySem.W.Frag} {I : Iv K} {x z : D} {ds : List D} {n : Nat} (hz : itemsD z = some ds) (hx : OkD 64 x) (hd : ∀ d ∈ ds, OkD n d) : P2 K I (rNotInDT K) x z (.bl (!ds.any fun y => eqD y x)) := fun P p G H v w Q s hI r1 r2 q =>
  ⟨_, _, dp_of s hx.py r1, items_dp s hz (okds hd).1 r2, (Bool.and_eq_true_iff.mp (hx.okEq (by decide))).2, (okds hd).2.1, by rw [any_py]; exact q _ (.bl _) G H I (Same.refl G) s hI rfl p⟩
end

/-! ### names by slots, read at once -/
section
variable {X : Cx} {W : WX} {R : Rx X.K} {a b c e : Expr} {es : List Expr} {δ : DEnv} {I : Iv X.K} {P : D → Iv X.K → Prop} {pos p p2 : Pos} {x y z d : D} {x' : Str} {ds : List D} {i j : Int} {k : Bool} {C : Prop}
theorem pv_w (i : Nat) (hd : δ[i]? = some (some d)) (hN : X.N[i]? = some x' := by rfl) (hv : Vis X.env.scope x' := by first | exact Or.inl rfl | exact Or.inr (Or.inl rfl) | exact Or.inr (Or.inr rfl)) (hdb : (x' == ("__debug__" : Str)) = false := by decide)
    (hcd : (x' == ("__classdict__" : Str)) = false := by decide) : PV X I (.Name x' pos) δ d := pv_v i hd hN hv hdb hcd
/-! == , != by the kinds of data -/
end
class EqC (x y : D) (b : outParam Bool) (C : outParam Prop) : Prop where
  e : C → ∀ (X : Cx) (I : Iv X.K), X.A.units + 64 < cLine → ∃ r, OpR X (compareOp .Eq) r ∧ P2 X.K I r x y (.bl b)
  n : C → ∀ (X : Cx) (I : Iv X.K), X.A.units + 64 < cLine → ∃ r, OpR X (compareOp .NotEq) r ∧ P2 X.K I r x y (.bl (!b))
theorem EqC.flat {x y : D} {v u : V} {b : Bool} (hx : flatD x = some v) (hy : flatD y = some u) (hs : scal v u = true) (hb : decide (v = u) = b) : EqC x y b True :=
  ⟨fun _ X I _ => ⟨_, op_eq, p2_eq hx hy hs hb⟩, fun _ X I _ => ⟨_, op_ne, p2_ne hx hy hs (by rw [hb])⟩⟩
theorem EqC.data {x y : D} : EqC x y (eqD x y) (okEq x = true ∧ okEq y = true) :=
  ⟨fun c X I hu => ⟨_, op_eqD hu, p2_eqD c.1 c.2⟩, fun c X I hu => ⟨_, op_neD hu, p2_neD c.1 c.2⟩⟩
instance {s t : Str} : EqC (.str s) (.str t) (decide (s = t)) True := .flat rfl rfl rfl (by simp)
instance {s t : Int} : EqC (.int s) (.int t) (decide (s = t)) True := .flat rfl rfl rfl (by simp)
instance {s t : Bool} : EqC (.bl s) (.bl t) (decide (s = t)) True := .flat rfl rfl rfl (by simp)
instance : EqC .non .non true True := .flat rfl rfl rfl rfl
instance {s : Str} : EqC (.str s) .non false True := .flat rfl rfl rfl rfl
instance {s : Str} : EqC .non (.str s) false True := .flat rfl rfl rfl rfl
instance {s : Int} : EqC (.int s) .non false True := .flat rfl rfl rfl rfl
instance {s : Int} : EqC .non (.int s) false True := .flat rfl rfl rfl rfl
instance {s : Int} {t : Str} : EqC (.int s) (.str t) false True := .flat rfl rfl rfl rfl
instance {s : Int} {t : Str} : EqC (.str t) (.int s) false True := .flat rfl rfl rfl rfl
instance {s : Bool} : EqC .non (.bl s) false True := .flat rfl rfl rfl rfl
instance {s : Bool} : EqC (.bl s) .non false True := .flat rfl rfl rfl rfl
instance {xs ys : List D} : EqC (.tup xs) (.tup ys) (eqD (.tup xs) (.tup ys)) (okEq (.tup xs) = true ∧ okEq (.tup ys) = true) := .data
instance {xs ys : List D} : EqC (.lst xs) (.lst ys) (eqD (.lst xs) (.lst ys)) (okEq (.lst xs) = true ∧ okEq (.lst ys) = true) := .data
instance {xs ys : List D} : EqC (.lst xs) (.tup ys) (eqD (.lst xs) (.tup ys)) (okEq (.lst xs) = true ∧ okEq (.tup ys) = true) := .data
instance {xs ys : List D} : EqC (.tup xs) (.lst ys) (eqD (.tup xs) (.lst ys)) (okEq (.tup xs) = true ∧ okEq (.lst ys) = true) := .data
instance {xs : List D} : EqC (.tup xs) .non (eqD (.tup xs) .non) (okEq (.tup xs) = true ∧ okEq .non = true) := .data
instance {xs : List D} : EqC .non (.tup xs) (eqD .non (.tup xs)) (okEq .non = true ∧ okEq (.tup xs) = true) := .data
instance {xs : List D} : EqC (.lst xs) .non (eqD (.lst xs) .non) (okEq (.lst xs) = true ∧ okEq .non = true) := .data
section
variable {X : Cx} {W : WX} {R : Rx X.K} {a b c e : Expr} {es : List Expr} {δ : DEnv} {I : Iv X.K} {P : D → Iv X.K → Prop} {pos p p2 : Pos} {x y z d : D} {x' : Str} {ds : List D} {i j : Int} {k : Bool} {C : Prop}
theorem pv_eq (hu : X.A.units + 64 < cLine) (ha : PV X I a δ x) (hb : PV X I b δ y) [E : EqC x y k C] (c : C) (hm : behindInMarks .Eq b = false := by first | exact nomark _ | rfl) : PV X I (.Compare a [.Eq] [b] pos) δ (.bl k) := by
  obtain ⟨r, ho, h⟩ := E.e c X I hu
  exact pv_cmp ho ha hb h hm
theorem pv_ne (hu : X.A.units + 64 < cLine) (ha : PV X I a δ x) (hb : PV X I b δ y) [E : EqC x y k C] (c : C) (hm : behindInMarks .NotEq b = false := by first | exact nomark _ | rfl) : PV X I (.Compare a [.NotEq] [b] pos) δ (.bl (!k)) := by
  obtain ⟨r, ho, h⟩ := E.n c X I hu
  exact pv_cmp ho ha hb h hm
theorem pt_eq (hu : X.A.units + 64 < cLine) (ha : PV X I a δ x) (hb : PV X I b δ y) [E : EqC x y k C] (c : C) (hm : behindInMarks .Eq b = false := by first | exact nomark _ | rfl) : PVT X I (.Compare a [.Eq] [b] pos) δ k := by
  obtain ⟨r, ho, h⟩ := E.e c X I hu
  exact pt_cmp ho ha hb h hm
theorem pt_ne (hu : X.A.units + 64 < cLine) (ha : PV X I a δ x) (hb : PV X I b δ y) [E : EqC x y k C] (c : C) (hm : behindInMarks .NotEq b = false := by first | exact nomark _ | rfl) : PVT X I (.Compare a [.NotEq] [b] pos) δ (!k) := by
  obtain ⟨r, ho, h⟩ := E.n c X I hu
  exact pt_cmp ho ha hb h hm
/-- a chain of two comparisons -/
theorem pt_chn {op op' : CmpOp} {r r' : R2} {k l : Bool} (ho : OpR X (compareOp op) r) (ho' : OpR X (compareOp op') r') (ha : PV X I a δ x) (hb : PV X I b δ y) (h1 : P2 X.K I r x y (.bl k)) (hc : PV X I c δ z) (h2 : P2 X.K I r' y z (.bl l))
    (hm : lastMarks [op, op'] [b, c] = false := by with_unfolding_all rfl) : PVT X I (.Compare a [op, op'] [b, c] pos) δ (k && l) := fun W R P pp σ G H Q hE s hI qx q =>
  PT.wp (pt_chain ho ho' peC peC peC hm) (ha W R (fun z1 J => z1 = x ∧ J = I) ⟨rfl, rfl⟩ σ G H _ hE s hI qx fun v d1 G1 H1 I1 s1 t1 g1 r1 ⟨ed, ei⟩ => by
    subst ed ei
    refine hb W R (fun z1 J => z1 = y ∧ J = I1) ⟨rfl, rfl⟩ σ G1 H1 _ (hE.mono s1) t1 g1 (qx.mono s1) fun v2 d2 G2 H2 I2 s2 t2 g2 r2 ⟨ed2, ei2⟩ => ?_
    subst ed2 ei2
    refine h1 (fun z1 J => z1 = .bl k ∧ J = I2) ⟨rfl, rfl⟩ G2 H2 v v2 _ t2 g2 (r1.mono s2) r2 fun v3 d3 G3 H3 I3 s3 t3 g3 r3 ⟨ed3, ei3⟩ => ?_
    subst ed3 ei3
    refine ⟨k, r3, ?_⟩
    cases k with
    | false =>
      exact ⟨false, rfl, q false G3 H3 _ ((s1.trans s2).trans s3) t3 g3 pp⟩
    | true =>
      simp only [if_true]
      refine hc W R (fun z1 J => z1 = z ∧ J = I3) ⟨rfl, rfl⟩ σ G3 H3 _ (hE.mono ((s1.trans s2).trans s3)) t3 g3 (qx.mono ((s1.trans s2).trans s3)) fun v4 d4 G4 H4 I4 s4 t4 g4 r4 ⟨ed4, ei4⟩ => ?_
      subst ed4 ei4
      refine h2 (fun z1 J => z1 = .bl l ∧ J = I4) ⟨rfl, rfl⟩ G4 H4 v2 v4 _ t4 g4 ((r2.mono s3).mono s4) r4 fun v5 d5 G5 H5 I5 s5 t5 g5 r5 ⟨ed5, ei5⟩ => ?_
      subst ed5 ei5
      exact ⟨l, r5, q l G5 H5 _ ((((s1.trans s2).trans s3).trans s4).trans s5) t5 g5 pp⟩)
end
end DL
set_option Elab.async false
set_option linter.all false
set_option maxRecDepth 100000
set_option maxHeartbeats 4000000
namespace DL
open PySem PySem.Spec PyProof.Rows L2

/-! ### targets that are tuples -/
structure wpGs (X : Cx) (ts : List Expr) (vs : List V) (σ : L2.St) (H : Hp) (Q : L2.St → Hp → Prop) : Prop where
  run : ∀ (pins : List (Addr × Obj)) (s : Shared) (us : List Value), Inv X pins σ H s → Vals vs us → wpAny (model X.prog X.w) X.A (assignInOrder ((assignEach ts X.env).map (·.2)) us) (fun _ s' => ∃ σ' H', Inv X pins σ' H' s' ∧ Q σ' H') X.xe s
def BindsD (X : Cx) (ts : List Expr) (ds : List D) (δ δ' : DEnv) (ws : List Nat) : Prop := ∀ (vs : List V) (σ : L2.St) (G H : Hp) (Q : L2.St → Hp → Prop), EnvR X.K G δ σ → Same G H → Reps X.K G ds vs → (∀ σ', EnvR X.K G δ' σ' → wipe σ' ws = wipe σ ws → Q σ' H) → wpGs X ts vs σ H Q
section
variable {X : Cx} {t e : Expr} {ts : List Expr} {d : D} {ds : List D} {δ δ1 δ2 : DEnv} {ws : List Nat} {pos : Pos} {W : WX} {I : Iv X.K} {κ : Ko X.K} {kk : Nat}
theorem pgsC : PGs X ts (wpGs X ts) := ⟨fun pins s σ H vs us Q I r h => h.run pins s us I r⟩
theorem bs_nil : BindsD X [] [] δ δ ws := fun vs σ G H Q hE s r q => ⟨fun pins s us J rv => pgs_nil.run pins s σ H vs us Q J rv ⟨r, q σ hE rfl⟩⟩
theorem bs_cons (h : BindD X t d δ δ1 ws) (h2 : BindsD X ts ds δ1 δ2 ws) (hs : (assignEach (t :: ts) X.env).map (·.2) = assign t X.env :: (assignEach ts X.env).map (·.2) := by rfl) : BindsD X (t :: ts) (d :: ds) δ δ2 ws := fun vs σ G H Q hE s ⟨v, r, ev, r1, r2⟩ q => by
  subst ev
  exact ⟨fun pins st us J rv => (pgs_cons pgC pgsC hs).run pins st σ H _ us Q J rv ⟨v, r, rfl, h v σ G H _ hE s r1 fun σ1 e1 w1 => h2 r σ1 G H Q e1 s r2 fun σ2 e2 w2 => q σ2 e2 (w2.trans w1)⟩⟩
theorem bind_tup (h : BindsD X ts ds δ δ2 ws) (hc : X.calm = true := by rfl) (hn : (assignEach ts X.env).length = ds.length := by rfl) (hst : (assignEach ts X.env).findIdx? (·.1) = none := by rfl) : BindD X (.Tuple ts kk pos) (.tup ds) δ δ2 ws := fun v σ G H Q hE s ⟨a, vs, ev, e1, r⟩ q =>
  PG.wp (pg_tup hc pgsC hn hst) ⟨a, vs, ev, sqT_mono s e1, r.length, h vs σ G H Q hE s r q⟩
/-- target = e, for good -/
theorem s_asgP (h : PV X I e δ d) (b : BindD X t d δ δ1 ws) (q : κ.nx δ1 I) (hs : swapsWithSole [t] e pos.line X.env = pure false := by rfl) (hw : swappedStores [t] e X.env = pure none := by rfl)
    (h1 : (assignEach [t] X.env).map (·.2) = [assign t X.env] := by rfl) : S1 X W (.Assign [t] e pos) δ I κ := fun σ G H E hE s hI k =>
  PS.wp (ps_asg peC pgC hs hw h1) (h W (κ.r δ) (fun z J => z = d ∧ J = I) ⟨rfl, rfl⟩ σ G H _ hE s hI (k.kx hE) fun v d1 G1 H1 I1 s1 t1 h1 r1 ⟨ed, ei⟩ => by
    subst ed ei
    exact b v σ G1 H1 _ (hE.mono s1) t1 r1 fun σ' e' _ => k.nx _ _ G1 H1 _ s1 t1 h1 e' q)
theorem s_asg (h : EvX X W (κ.r δ) e δ I fun d I1 => ∃ δ1 ws, BindD X t d δ δ1 ws ∧ κ.nx δ1 I1) (hs : swapsWithSole [t] e pos.line X.env = pure false := by rfl) (hw : swappedStores [t] e X.env = pure none := by rfl)
    (h1 : (assignEach [t] X.env).map (·.2) = [assign t X.env] := by rfl) : S1 X W (.Assign [t] e pos) δ I κ := fun σ G H E hE s hI k =>
  PS.wp (ps_asg peC pgC hs hw h1) (h σ G H _ hE s hI (k.kx hE) fun v d1 G1 H1 I1 s1 t1 h1 r1 ⟨δ1, ws, b, q⟩ => b v σ G1 H1 _ (hE.mono s1) t1 r1 fun σ' e' _ => k.nx _ _ G1 H1 _ s1 t1 h1 e' q)
end

/-! ### order of texts -/
theorem lt_irr : ∀ a : List Nat, ltCps a a = false
  | [] => rfl
  | a :: r => by simp [ltCps, lt_irr r]
theorem lt_tr : ∀ a b c : List Nat, ltCps a b = true → ltCps b c = true → ltCps a c = true
  | [], [], _, h, _ => by simp [ltCps] at h
  | [], _ :: _, [], _, h => by simp [ltCps] at h
  | [], _ :: _, _ :: _, _, _ => rfl
  | _ :: _, [], _, h, _ => by simp [ltCps] at h
  | _ :: _, _ :: _, [], _, h => by simp [ltCps] at h
  | a :: r, b :: t, c :: u, h, k => by
    simp only [ltCps, Bool.or_eq_true, decide_eq_true_eq, Bool.and_eq_true, beq_iff_eq] at h k ⊢
    rcases h with h | ⟨h, h2⟩
    · rcases k with k | ⟨k, k2⟩
      · exact .inl (by omega)
      · exact .inl (by omega)
    · rcases k with k | ⟨k, k2⟩
      · exact .inl (by omega)
      · exact .inr ⟨by omega, lt_tr r t u h2 k2⟩
theorem lt_tri : ∀ a b : List Nat, ltCps a b = false → ltCps b a = false → a = b
  | [], [], _, _ => rfl
  | [], _ :: _, h, _ => by simp [ltCps] at h
  | _ :: _, [], _, h => by simp [ltCps] at h
  | a :: r, b :: t, h, k => by
    simp only [ltCps, Bool.or_eq_false_iff, decide_eq_false_iff_not, Bool.and_eq_false_iff, beq_eq_false_iff_ne] at h k
    have e : a = b := by omega
    subst e
    have h2 : ltCps r t = false := h.2.resolve_left (by simp)
    have k2 : ltCps t r = false := k.2.resolve_left (by simp)
    rw [lt_tri r t h2 k2]
def leS (a b : Str) : Bool := !ltCps b.cps.toList a.cps.toList
theorem leS_tr (a b c : Str) (h : leS a b = true) (k : leS b c = true) : leS a c = true := by
  unfold leS at h k ⊢
  simp only [Bool.not_eq_true'] at h k ⊢
  cases q : ltCps c.cps.toList a.cps.toList with
  | false => rfl
  | true =>
    cases q2 : ltCps a.cps.toList b.cps.toList with
    | true => rw [lt_tr _ _ _ q q2] at k; cases k
    | false =>
      have e := lt_tri _ _ h q2
      rw [e, q] at k
      cases k
theorem leS_total (a b : Str) : (leS a b || leS b a) = true := by
  unfold leS
  cases q : ltCps b.cps.toList a.cps.toList with
  | false => rfl
  | true =>
    cases q2 : ltCps a.cps.toList b.cps.toList with
    | false => rfl
    | true => have := lt_tr _ _ _ q q2; rw [lt_irr] at this; cases this
theorem leS_anti {a b : Str} (h : leS a b = true) (k : leS b a = true) : a = b := by
  unfold leS at h k
  simp only [Bool.not_eq_true'] at h k
  exact str_ext (lt_tri _ _ k h)
def sortS (xs : List Str) : List Str := xs.mergeSort leS
theorem sortS_perm (xs : List Str) : (sortS xs).Perm xs := List.mergeSort_perm xs _
theorem sortS_pw (xs : List Str) : (sortS xs).Pairwise (fun a b => leS a b = true) := List.pairwise_mergeSort leS_tr leS_total xs
theorem rising_pw : ∀ (ys : List Str) (p : Str), risingS p ys = true → (∀ y ∈ ys, leS p y = true) ∧ ys.Pairwise (fun a b => leS a b = true)
  | [], _, _ => ⟨(fun _ h => nomatch h), List.Pairwise.nil⟩
  | y :: ys, p, h => by
    obtain ⟨h1, h2⟩ := Bool.and_eq_true_iff.mp (show (!ltCps y.cps.toList p.cps.toList && risingS y ys) = true from h)
    obtain ⟨q1, q2⟩ := rising_pw ys y h2
    exact ⟨fun z hz => (List.mem_cons.mp hz).elim (fun e => e ▸ h1) fun hz => leS_tr _ _ _ h1 (q1 z hz), List.Pairwise.cons q1 q2⟩
theorem sorted_pw {ys : List Str} (h : sortedS ys = true) : ys.Pairwise (fun a b => leS a b = true) := by
  cases ys with
  | nil => exact .nil
  | cons y ys => exact .cons (rising_pw ys y h).1 (rising_pw ys y h).2
theorem sort_uniq {xs ys : List Str} (h1 : ys.Pairwise (fun a b => leS a b = true)) (h2 : ys.Perm xs) : ys = sortS xs :=
  List.Perm.eq_of_pairwise (fun a b _ _ => leS_anti) h1 (sortS_pw xs) (h2.trans (sortS_perm xs).symm)
theorem sortS_len (xs : List Str) : (sortS xs).length = xs.length := (sortS_perm xs).length_eq
theorem sortS_mem {x : Str} {xs : List Str} : x ∈ sortS xs ↔ x ∈ xs := (sortS_perm xs).mem_iff
theorem sortS_idem {xs : List Str} (h : xs.Pairwise (fun a b => leS a b = true)) : sortS xs = xs := (sort_uniq h (List.Perm.refl _)).symm
theorem sortS_congr {xs ys : List Str} (h : xs.Perm ys) : sortS xs = sortS ys := sort_uniq (sortS_pw xs) ((sortS_perm xs).trans h)

/-! ### calls: sorted, list(dict), tuple(list) .. -/
section
variable {K : PySem.W.Frag} {I : Iv K} {d : D} {ds : List D} {kds : List (Key × D)} {ss : List Str}
theorem pn_sortedS (h : ss.length < 64) : PN K I (rSortedS K) [.lst (ss.map D.str)] (.lst ((sortS ss).map D.str)) := fun P p G H vs Q s hI r q => by
  obtain ⟨v, r1, rfl, ⟨a, xs, rfl, e2, e3⟩, er⟩ := r
  rw [show r1 = [] from er]
  rw [repsStr e3] at e2
  refine ⟨a, ss, rfl, SqL.of (s _ _ e2), h, fun ys p hp hs hq => ?_⟩
  rw [sort_uniq (sorted_pw hs) hp]
  have hg : G p = none := s.free hq
  exact q (.ref p) (.lst ((sortS ss).map D.str)) (upd G p (.lst ((sortS ss).map V.str))) _ I (Evl.Ex.new hg) (same_upd2 s) (hI.keep hq s) ⟨p, _, rfl, upd_same, (reps_flat (flatDs_str _))⟩ ‹_›
theorem pn_listD : PN K I (fun xs H Q => ∃ (a : Addr) (kvs : List (Key × V)), xs = [.ref a] ∧ Rd H a (.dK kvs) ∧ ∀ p, H p = none → Q (.ref p) (upd H p (.lst (kvs.map fun kv => kV kv.1)))) [dicD kds] (.lst (kds.map fun p => keyV p.1)) := fun P pp G H vs Q s hI r q => by
  obtain ⟨v, r1, rfl, rd, er⟩ := r
  rw [show r1 = [] from er]
  obtain ⟨a, od, kvs, rfl, e1, kr⟩ := rep_dicD.mp rd
  refine ⟨a, kvs, rfl, .inr ⟨od, s _ _ e1⟩, fun p hq => ?_⟩
  have hg : G p = none := s.free hq
  have rr : Reps K (upd G p (.lst (kvs.map fun kv => kV kv.1))) (kds.map fun p => keyV p.1) (kvs.map fun kv => kV kv.1) := by
    have e := kr.keys
    have e2 : (kvs.map fun kv => kV kv.1) = (kds.map (·.1)).map kV := by rw [← e, List.map_map]; rfl
    have e3 : (kds.map fun p => keyV p.1) = (kds.map (·.1)).map keyV := by rw [List.map_map]; rfl
    rw [e2, e3]
    generalize kds.map (·.1) = ks
    generalize upd G p _ = G'
    induction ks with
    | nil => exact .nil
    | cons k ks ih => exact .cons (rep_keyV k) ih
  exact q (.ref p) (.lst (kds.map fun p => keyV p.1)) (upd G p (.lst _)) _ I (Evl.Ex.new hg) (same_upd2 s) (hI.keep hq s) ⟨p, _, rfl, upd_same, rr⟩ pp
end

/-! ### slices -/
def cutD (ds : List D) (lo hi : Option Int) : List D := (ds.drop (HT.sIx ds.length 0 lo)).take (HT.sIx ds.length ds.length hi - HT.sIx ds.length 0 lo)
theorem Reps.drop {K : PySem.W.Frag} {G : Hp} : ∀ {ds : List D} {vs : List V} (n : Nat), Reps K G ds vs → Reps K G (ds.drop n) (vs.drop n)
  | _, _, 0, h => h
  | [], _, n + 1, h => by rw [show _ = [] from h]; exact rfl
  | _ :: _, _, n + 1, ⟨v, r, e, _, h3⟩ => by rw [e]; exact Reps.drop n h3
theorem Reps.take {K : PySem.W.Frag} {G : Hp} : ∀ {ds : List D} {vs : List V} (n : Nat), Reps K G ds vs → Reps K G (ds.take n) (vs.take n)
  | [], _, n, h => by rw [show _ = [] from h, List.take_nil, List.take_nil]; exact rfl
  | _ :: _, _, 0, _ => rfl
  | _ :: _, _, n + 1, ⟨v, r, e, h2, h3⟩ => by rw [e]; exact ⟨v, r.take n, rfl, h2, Reps.take n h3⟩
theorem Reps.cut {K : PySem.W.Frag} {G : Hp} {ds : List D} {vs : List V} (h : Reps K G ds vs) (lo hi : Option Int) : Reps K G (cutD ds lo hi) (cutV vs lo hi) := by
  unfold cutD cutV
  rw [h.length]
  exact (h.drop _).take _
theorem cut_take (ds : List D) (n : Nat) : cutD ds none (some (n : Int)) = ds.take n := by
  unfold cutD
  rw [HT.sIx_none, HT.sIx_nat, List.drop_zero, Nat.sub_zero]
  rw [Nat.min_def]
  split
  · rfl
  · rw [List.take_length, List.take_of_length_le (by omega)]
theorem cut_drop (ds : List D) (n : Nat) : cutD ds (some (n : Int)) none = ds.drop n := by
  unfold cutD
  rw [HT.sIx_none, HT.sIx_nat, Nat.min_def]
  split
  · rw [List.take_of_length_le (by simp)]
  · rw [List.drop_length, List.take_nil, List.drop_of_length_le (by omega)]
theorem cut_mid (ds : List D) (n m : Nat) : cutD ds (some (n : Int)) (some (m : Int)) = (ds.drop n).take (m - n) := by
  unfold cutD
  rw [HT.sIx_nat, HT.sIx_nat]
  by_cases h : n ≤ ds.length
  · rw [Nat.min_eq_left h]
    by_cases h2 : m ≤ ds.length
    · rw [Nat.min_eq_left h2]
    · rw [Nat.min_eq_right (show ds.length ≤ m by omega), List.take_of_length_le (show (ds.drop n).length ≤ ds.length - n by simp), List.take_of_length_le (show (ds.drop n).length ≤ m - n by simp; omega)]
  · rw [Nat.min_eq_right (show ds.length ≤ n by omega), List.drop_length, List.take_nil, List.drop_of_length_le (show ds.length ≤ n by omega), List.take_nil]
theorem cut_last (ds : List D) : cutD ds (some (-1)) none = ds.drop (ds.length - 1) := by
  unfold cutD
  have e : HT.sIx ds.length 0 (some (-1)) = ds.length - 1 := by
    show (if (-1 : Int) < 0 then ((-1 : Int) + (ds.length : Int)).toNat else min (-1 : Int).toNat ds.length) = _
    rw [if_pos (by decide)]
    omega
  rw [e, HT.sIx_none, List.take_of_length_le (by simp)]
theorem cut_init (ds : List D) : cutD ds none (some (-1)) = ds.take (ds.length - 1) := by
  unfold cutD
  have e : HT.sIx ds.length ds.length (some (-1)) = ds.length - 1 := by
    show (if (-1 : Int) < 0 then ((-1 : Int) + (ds.length : Int)).toNat else min (-1 : Int).toNat ds.length) = _
    rw [if_pos (by decide)]
    omega
  rw [e, HT.sIx_none, List.drop_zero, Nat.sub_zero]
structure wpO (X : Cx) (o : Option Expr) (σ : L2.St) (H : Hp) (Q : Option Int → Hp → Prop) : Prop where
  run : ∀ (pins : List (Addr × Obj)) (s : Shared), Inv X pins σ H s → wpAny (model X.prog X.w) X.A (evalPart o X.env) (fun u s' => ∃ o H', Inv X pins σ H' s' ∧ IsPart u o ∧ Q o H') X.xe s
section
variable {X : Cx} {a e : Expr} {lo hi : Option Expr} {δ : DEnv} {I : Iv X.K} {pos p2 : Pos} {ds : List D} {l h : Option Int} {i : Int} {z : Str}
theorem poC : PO X lo (wpO X lo) := ⟨fun pins s σ H Q I h => h.run pins s I⟩
/-- a part of a slice -/
def PVO (X : Cx) (I : Iv X.K) (lo : Option Expr) (δ : DEnv) (l : Option Int) : Prop := ∀ (W : WX) (R : Rx X.K) (σ : L2.St) (G H : Hp) (Q : Option Int → Hp → Prop), EnvR X.K G δ σ → Same G H → Hd I G H → Kx X.K W σ G R →
  (∀ G' H', Same G G' → Same G' H' → Hd I G' H' → Q l H') → wpO X lo σ H Q
theorem vo_none : PVO X I none δ none := fun W R σ G H Q _ s hI _ q => ⟨fun pins st J => po_none.run pins st σ H Q J (q G H (Same.refl G) s hI)⟩
theorem vo_some (he : PV X I e δ (.int i)) : PVO X I (some e) δ (some i) := fun W R σ G H Q hE s hI qx q => ⟨fun pins st J => (po_some peC).run pins st σ H Q J
  (he W R (fun z J => z = .int i ∧ J = I) ⟨rfl, rfl⟩ σ G H _ hE s hI qx fun v d G1 H1 I1 s1 t1 g1 r1 ⟨ed, ei⟩ => by
    subst ed ei
    exact ⟨i, r1, q G1 H1 s1 t1 g1⟩)⟩
theorem pv_slice {r : V → Option Int → Option Int → Hp → VK → Prop} {x z : D} (hr : SlR X r) (ha : PV X I a δ x) (hl : PVO X I lo δ l) (hh : PVO X I hi δ h)
    (k : ∀ (G H : Hp) (v : V) (Q : VK), Same G H → Hd I G H → Rep X.K G x v → (∀ (w : V) (G' H' : Hp), Same G G' → Same G' H' → Hd I G' H' → Rep X.K G' z w → Q w H') → r v l h H Q) : PV X I (.Subscript a (.Slice lo hi none p2) pos) δ z := fun W R P pp σ G H Q hE s hI qx q =>
  PE.wp (pe_slice hr peC poC poC) (ha W R (fun y J => y = x ∧ J = I) ⟨rfl, rfl⟩ σ G H _ hE s hI qx fun v d G1 H1 I1 s1 t1 g1 r1 ⟨ed, ei⟩ => by
    subst ed ei
    refine hl W R σ G1 H1 _ (hE.mono s1) t1 g1 (qx.mono s1) fun G2 H2 s2 t2 g2 => ?_
    refine hh W R σ G2 H2 _ (hE.mono (s1.trans s2)) t2 g2 (qx.mono (s1.trans s2)) fun G3 H3 s3 t3 g3 => ?_
    exact k G3 H3 v Q t3 g3 ((r1.mono s2).mono s3) fun w G4 H4 s4 t4 g4 r4 => q w z G4 H4 _ (((s1.trans s2).trans s3).trans s4) t4 g4 r4 pp)
theorem pv_slL (ha : PV X I a δ (.lst ds)) (hl : PVO X I lo δ l) (hh : PVO X I hi δ h) : PV X I (.Subscript a (.Slice lo hi none p2) pos) δ (.lst (cutD ds l h)) :=
  pv_slice sl_list ha hl hh fun G H v Q s hI ⟨b, vs, ev, e1, e2⟩ q => ⟨b, vs, ev, SqL.of (s _ _ e1), fun p hp => by
    have hg : G p = none := s.free hp
    exact q (.ref p) _ _ (Evl.Ex.new hg) (same_upd2 s) (hI.keep hp s) ⟨p, _, rfl, upd_same, (e2.cut l h).mono (Evl.Ex.new hg)⟩⟩
theorem cutV_whole {vs : List V} (h1 : HT.sIx vs.length 0 l = 0) (h2 : HT.sIx vs.length vs.length h = vs.length) : cutV vs l h = vs := by
  unfold cutV
  rw [h1, h2]
  simp
theorem pv_slT (ha : PV X I a δ (.tup ds)) (hl : PVO X I lo δ l) (hh : PVO X I hi δ h) : PV X I (.Subscript a (.Slice lo hi none p2) pos) δ (.tup (cutD ds l h)) :=
  pv_slice sl_tupA ha hl hh fun G H v Q s hI ⟨b, vs, ev, e1, e2⟩ q => ⟨b, vs, ev, sqT_mono s e1, fun hw => q (.ref b) G H (Same.refl G) s hI ⟨b, cutV vs l h, rfl, by rw [cutV_whole hw.1 hw.2]; exact e1, e2.cut l h⟩, fun _ p hp => by
    have hg : G p = none := s.free hp
    exact q (.ref p) _ _ (Evl.Ex.new hg) (same_upd2 s) (hI.keep hp s) ⟨p, _, rfl, SqT.of upd_same, (e2.cut l h).mono (Evl.Ex.new hg)⟩⟩
theorem pv_slS (ha : PV X I a δ (.str z)) (hl : PVO X I lo δ l) (hh : PVO X I hi δ h) (hz : z.length ≤ 100000) : PV X I (.Subscript a (.Slice lo hi none p2) pos) δ (.str (cutS z l h)) :=
  pv_slice sl_str ha hl hh fun G H v Q s hI r q => ⟨z, r, by rw [sizeLine_eq]; omega, q (.str _) G H (Same.refl G) s hI rfl⟩
end
end DL
set_option Elab.async false
set_option linter.all false
set_option maxRecDepth 100000
set_option maxHeartbeats 4000000
namespace DL
open PySem PySem.Spec PyProof.Rows L2

/-! ### slots forgotten at will -/
def msk : DEnv → DEnv → DEnv
  | a :: as, none :: bs => none :: msk as bs
  | a :: as, some _ :: bs => a :: msk as bs
  | _, _ => []
/-- the second says less -/
def DLe (δ δ0 : DEnv) : Prop := δ.length = δ0.length ∧ ∀ (i : Nat) (d : D), δ0[i]? = some (some d) → δ[i]? = some (some d)
theorem DLe.refl {δ : DEnv} : DLe δ δ := ⟨rfl, fun _ _ h => h⟩
theorem DLe.trans {a b c : DEnv} (h : DLe a b) (k : DLe b c) : DLe a c := ⟨h.1.trans k.1, fun i d e => h.2 i d (k.2 i d e)⟩
theorem msk_of : ∀ {δ δ0 : DEnv}, msk δ δ0 = δ0 → DLe δ δ0 ∨ δ0.length < δ.length ∨ δ0 = []
  | [], [], _ => .inl .refl
  | [], b :: bs, h => by cases b <;> cases h
  | a :: as, [], _ => .inr (.inr rfl)
  | a :: as, none :: bs, h => by
    have h2 : msk as bs = bs := (List.cons.inj h).2
    rcases msk_of h2 with q | q | q
    · refine .inl ⟨by simp [q.1], fun i d e => ?_⟩
      cases i with
      | zero => cases e
      | succ i => exact q.2 i d e
    · exact .inr (.inl (by simpa using q))
    · subst q
      cases as with
      | nil => exact .inl ⟨rfl, fun i d e => by cases i with
        | zero => cases e
        | succ i => cases e⟩
      | cons _ _ => exact .inr (.inl (by simp))
  | a :: as, some b :: bs, h => by
    have h1 : a = some b := (List.cons.inj h).1
    have h2 : msk as bs = bs := (List.cons.inj h).2
    rcases msk_of h2 with q | q | q
    · refine .inl ⟨by simp [q.1], fun i d e => ?_⟩
      cases i with
      | zero => rw [h1]; exact e
      | succ i => exact q.2 i d e
    · exact .inr (.inl (by simpa using q))
    · subst q
      cases as with
      | nil => exact .inl ⟨rfl, fun i d e => by cases i with
        | zero => rw [h1]; exact e
        | succ i => cases e⟩
      | cons _ _ => exact .inr (.inl (by simp))
theorem DLe.of {δ δ0 : DEnv} (h : msk δ δ0 = δ0) (hl : δ.length = δ0.length) : DLe δ δ0 := by
  rcases msk_of h with q | q | q
  · exact q
  · omega
  · subst q
    exact ⟨hl, fun i d e => by simp at e⟩
theorem DLe.wipe (δ : DEnv) : ∀ vs, DLe δ (wipeD δ vs)
  | [] => .refl
  | v :: vs => (DLe.wipe δ vs).trans ⟨by show _ = ((wipeD δ vs).set v none).length; simp, fun i d e => by
    have e : ((wipeD δ vs).set v none)[i]? = some (some d) := e
    by_cases h : v = i
    · subst h
      rw [List.getElem?_set] at e
      simp at e
    · rwa [List.getElem?_set_ne h] at e⟩
theorem EnvR.le {K : PySem.W.Frag} {G : Hp} {δ δ0 : DEnv} {σ : L2.St} (h : EnvR K G δ σ) (k : DLe δ δ0) : EnvR K G δ0 σ := ⟨h.1.trans k.1, fun i d e => h.2 i d (k.2 i d e)⟩
section
variable {X : Cx} {W : WX} {R : Rx X.K} {tg iter e elt c : Expr} {ifs : List Expr} {scope : Scope} {sts body : List Stmt} {st : Stmt} {δ δ0 : DEnv} {I : Iv X.K} {κ : Ko X.K} {P : D → Iv X.K → Prop} {pos : Pos} {d : D} {vs : List Nat}
theorem SX.le (k : DLe δ δ0) (h : SX X W sts δ0 I κ) : SX X W sts δ I κ := fun σ G H E hE => h σ G H E (hE.le k)
theorem S1.le (k : DLe δ δ0) (h : S1 X W st δ0 I κ) : S1 X W st δ I κ := fun σ G H E hE => h σ G H E (hE.le k)
theorem BindD.le {δ1 : DEnv} (k : DLe δ δ0) (h : BindD X tg d δ0 δ1 vs) : BindD X tg d δ δ1 vs := fun v σ G H Q hE => h v σ G H Q (hE.le k)
/-- the ends may forget -/
def Ko.w {K : PySem.W.Frag} (κ : Ko K) : Ko K := { κ with nx := fun δ' I' => ∃ δ0, DLe δ' δ0 ∧ κ.nx δ0 I', bk := fun δ' I' => ∃ δ0, DLe δ' δ0 ∧ κ.bk δ0 I', ct := fun δ' I' => ∃ δ0, DLe δ' δ0 ∧ κ.ct δ0 I' }
theorem KoLe.w {K : PySem.W.Frag} {W : WX} {E : Ends} {G : Hp} {κ : Ko K} (h : KoLe K W E G κ) : KoLe K W E G κ.w where
  nx := fun δ σ G' H' I' s1 s2 hI hE ⟨δ0, k, q⟩ => h.nx δ0 σ G' H' I' s1 s2 hI (hE.le k) q
  bk := fun δ σ G' H' I' s1 s2 hI hE ⟨δ0, k, q⟩ => h.bk δ0 σ G' H' I' s1 s2 hI (hE.le k) q
  ct := fun δ σ G' H' I' s1 s2 hI hE ⟨δ0, k, q⟩ => h.ct δ0 σ G' H' I' s1 s2 hI (hE.le k) q
  rt := h.rt
  ex := h.ex
theorem SX.w (h : SX X W sts δ I κ.w) : SX X W sts δ I κ := fun σ G H E hE s hI k => h σ G H E hE s hI k.w
theorem S1.w (h : S1 X W st δ I κ.w) : S1 X W st δ I κ := fun σ G H E hE s hI k => h σ G H E hE s hI k.w

/-! ### loops over typed things -/
theorem get_map {α : Type} {g : α → D} {xs : List α} {i : Nat} {d : D} (h : (xs.map g)[i]? = some d) : ∃ x, xs[i]? = some x ∧ d = g x := by
  rw [List.getElem?_map] at h
  cases e : xs[i]? with
  | none => rw [e] at h; cases h
  | some x => rw [e] at h; exact ⟨x, rfl, (Option.some.inj h).symm⟩
/-- for x in xs: what is done is known by what was gone through -/
theorem s_forT {α : Type} {xs : List α} {g : α → D} (po : PassesOwn (model X.prog X.w) X.A X.env X.xe) (hi : PVI X I tg iter δ (xs.map g)) (Nv : List α → DEnv → Iv X.K → Prop) (h0 : Nv [] δ I)
    (step : ∀ p x r δ' I', xs = p ++ x :: r → Nv p δ' I' → ∃ δ'' vs, BindD X tg (g x) δ' δ'' vs ∧ SX X W body δ'' I' { κ with nx := Nv (p ++ [x]), ct := Nv (p ++ [x]), bk := κ.nx }) (fin : ∀ δ' I', Nv xs δ' I' → κ.nx δ' I')
    (hc : X.calm = true := by rfl) (hs : ∀ x, foldedSetIterable iter X.env x = pure x := by intro _; rfl) : S1 X W (.For tg iter body [] pos) δ I κ :=
  s_for po (hi W (κ.r δ) _ ⟨fun i => Nv (xs.take i), h0, fun i d δ' I' hd nv => by
    obtain ⟨x, hx, rfl⟩ := get_map hd
    have hl := (List.getElem?_eq_some_iff.mp hx).1
    have e : xs = xs.take i ++ x :: xs.drop (i + 1) := by
      rw [← (List.getElem?_eq_some_iff.mp hx).2, List.getElem_cons_drop hl, List.take_append_drop]
    have e2 : xs.take (i + 1) = xs.take i ++ [x] := take_snoc hx
    obtain ⟨δ'', vs, b, q⟩ := step _ x _ δ' I' e nv
    rw [← e2] at q
    exact ⟨δ'', vs, b, q⟩, fun δ' I' nv => fin δ' I' (by rw [List.length_map, List.take_length] at nv; exact nv)⟩) hc hs
/-- .. that leaves all as it is but for some names -/
theorem s_forK {α : Type} {xs : List α} {g : α → D} (tm : List Nat) (po : PassesOwn (model X.prog X.w) X.A X.env X.xe) (hi : PVI X I tg iter δ (xs.map g))
    (step : ∀ x ∈ xs, ∃ δ'' vs, BindD X tg (g x) (wipeD δ tm) δ'' vs ∧ SX X W body δ'' I { κ with nx := fun δ' I' => I' = I ∧ DLe δ' (wipeD δ tm), ct := fun δ' I' => I' = I ∧ DLe δ' (wipeD δ tm), bk := fun δ' I' => ∃ δ0, DLe δ' δ0 ∧ κ.nx δ0 I' }) (fin : κ.nx (wipeD δ tm) I)
    (hc : X.calm = true := by rfl) (hs : ∀ x, foldedSetIterable iter X.env x = pure x := by intro _; rfl) : S1 X W (.For tg iter body [] pos) δ I κ := by
  refine S1.w (s_forT po hi (fun _ δ' I' => I' = I ∧ DLe δ' (wipeD δ tm)) ⟨rfl, .wipe δ tm⟩ ?_ ?_ hc hs)
  · rintro p x r δ' I' e ⟨rfl, k⟩
    obtain ⟨δ'', vs, b, q⟩ := step x (by rw [e]; simp)
    exact ⟨δ'', vs, b.le k, q.imp (fun _ _ h => h) (fun _ _ h => h) (fun _ _ h => h) (fun _ _ h => h) (fun _ _ _ _ h => h)⟩
  · rintro δ' I' ⟨rfl, k⟩
    exact ⟨_, k, fin⟩

/-! ### comprehensions over typed things -/
/-- what a comprehension does -/
def LcH (X : Cx) (W : WX) (R : Rx X.K) (elt tg iter : Expr) (ifs : List Expr) (scope : Scope) (own : List (Str × Nat)) (δ : DEnv) (I : Iv X.K) (P : D → Iv X.K → Prop) : Prop := EvI X W R tg iter δ I fun ds I1 => ds.length ≤ 1000000 ∧ ∃ (Nv : Nat → List D → Prop), Nv 0 [] ∧ (∀ i d ys, ds[i]? = some d → Nv i ys → ∃ (T : Bool → Prop) (δ' : DEnv), (∀ (J : Iv X.K) (s : Shared) (H : Hp) (C : Addr) (cl : List (Str × Addr)) (fp : List Addr),
        BindD (X.blk s H scope (compEnvC scope cl C X.env) fp) tg d (wipeD δ (own.map (·.2))) δ' (own.map (·.2)) ∧
        EvTs (X.blk s H scope (compEnvC scope cl C X.env) fp) W0 R0 ifs δ' (I1.and J) fun b I2 => I2 = I1.and J ∧ T b) ∧
        (T true → ∀ (J : Iv X.K) (s : Shared) (H : Hp) (C : Addr) (cl : List (Str × Addr)) (fp : List Addr), EvX (X.blk s H scope (compEnvC scope cl C X.env) fp) W0 R0 elt δ' (I1.and J) fun y I3 => I3 = I1.and J ∧ Nv (i + 1) (ys ++ [y])) ∧ (T false → Nv (i + 1) ys)) ∧
      ∀ ys, Nv ds.length ys → P (.lst ys) I1
theorem lcH_t {own : List (Str × Nat)} (h : LcH X W R elt tg iter ifs scope own δ I P) {σ : L2.St} {G H : Hp} {Q : VK} (hE : EnvR X.K G δ σ) (s : Same G H) (hI : Hd I G H) (qx : Kx X.K W σ G R) (q : Kv X.K Q G P) :
    tLc (wpI X tg iter) (fun v σ H Q => ∀ s0 H0 C cl fp, wpG (X.blk s0 H0 scope (compEnvC scope cl C X.env) fp) tg v σ H Q) (fun σ H Q => ∀ s0 H0 C cl fp, wpTs (X.blk s0 H0 scope (compEnvC scope cl C X.env) fp) ifs σ H Q)
      (fun σ H Q => ∀ s0 H0 C cl fp, wpE (X.blk s0 H0 scope (compEnvC scope cl C X.env) fp) elt σ H Q) (own.map (·.2)) σ H Q := by
  refine h σ G H _ hE s hI qx fun J ds G1 H1 I1 s1 t1 h1 wk ⟨hz, Nv, n0, step, fin⟩ D hD => ?_
  have gD : G1 D = none := t1.free hD
  have apart : ∀ a, ¬ (I1.F a ∧ a = D) := fun a ha => h1.dom ha.1 (by rw [ha.2]; exact hD)
  refine ⟨fun i m H' => m = ds.length - i ∧ i ≤ ds.length ∧ ∃ ys G', Nv i ys ∧ ys.length ≤ i ∧ Same G1 G' ∧ Same G' H' ∧ Hd (I1.and (iLst X.K D ys)) G' H', ⟨_, rfl, Nat.zero_le _, [], G1, n0, Nat.le_refl _, Same.refl _, same_upd t1 gD, ?_⟩, ?_⟩
  · exact Hd.mk2 (h1.newp hD) ⟨⟨_, upd_same, [], rfl, rfl⟩, fun a ha => by rw [show a = D from ha]; exact gD⟩ apart
  · rintro i m H' ⟨rfl, hi, ys, G', nv, hy, s2, t2, hd2⟩
    by_cases hlt : i < ds.length
    · refine .inr ⟨wk.go i G' H' s2 t2 hlt, fun H3 => ∃ ys3 G3, Nv (i + 1) ys3 ∧ ys3.length ≤ i + 1 ∧ Same G1 G3 ∧ Same G3 H3 ∧ Hd (I1.and (iLst X.K D ys3)) G3 H3, fun H3 ⟨ys3, G3, q1, q2, q3, q4, q5⟩ => ⟨ds.length - (i + 1), by omega, rfl, hlt, ys3, G3, q1, q2, q3, q4, q5⟩, fun x H3 hyl => ?_⟩
      obtain ⟨G3, s3, t3, h3, _, d, hd, rd⟩ := wk.yld i G' H' _ x H3 s2 t2 hd2 hlt hyl
      obtain ⟨T, δ', stA, stB, stC⟩ := step i d ys hd nv
      intro s0 H0 C cl fp
      refine (stA (iLst X.K D ys) s0 H0 C cl fp).1 x _ G3 H3 _ (((hE.mono s1).mono (s2.trans s3)).wipe _) t3 rd fun σ4 e4 ew => ⟨by rw [ew, wipe_wipe], ?_⟩
      intro s0 H0 C cl fp
      refine (stA (iLst X.K D ys) s0 H0 C cl fp).2 σ4 G3 H3 _ e4 t3 h3 kx0 fun b G4 H4 I4 s4 t4 h4 ⟨eI, pb⟩ => ?_
      subst eI
      cases b with
      | false => exact ⟨ys, G4, stC pb, by omega, (s2.trans s3).trans s4, t4, h4⟩
      | true =>
        intro s0 H0 C cl fp
        refine stB pb (iLst X.K D ys) s0 H0 C cl fp σ4 G4 H4 _ (e4.mono s4) t4 h4 kx0 fun y dy G5 H5 I5 s5 t5 h5 r5 ⟨eI, nv5⟩ => ?_
        subst eI
        obtain ⟨o, ho, vs, ev, rv⟩ := h5.right.ph
        subst ev
        have g5 : G5 D = none := h5.right.fr D rfl
        refine ⟨vs, ho, ?_, ys ++ [dy], G5, nv5, by simp; omega, ((s2.trans s3).trans s4).trans s5, same_upd t5 g5, ?_⟩
        · rw [rv.length, sizeLine_eq]; omega
        · refine Hd.mk2 (h5.left.chg fun hf => apart D ⟨hf, rfl⟩) ⟨⟨_, upd_same, _, rfl, rv.append (Reps.one r5)⟩, h5.right.fr⟩ apart
    · have ei : i = ds.length := by omega
      subst ei
      obtain ⟨o, ho, vs, ev, rv⟩ := hd2.right.ph
      subst ev
      have g5 : G' D = none := hd2.right.fr D rfl
      refine .inl ⟨wk.stop G' H' s2 t2, q (.ref D) (.lst ys) (upd G' D (.lst vs)) H' I1 ((s1.trans s2).trans (Evl.Ex.new g5)) (same_freeze t2 ho) ?_ ⟨D, vs, rfl, upd_same, rv.mono (Evl.Ex.new g5)⟩ (fin ys nv)⟩
      exact ⟨I1.loc G' _ H' H' (Evl.Ex.new g5) (fun _ _ => rfl) hd2.left.ph, fun a ha => by rw [upd_ne fun e => apart a ⟨ha, e⟩]; exact hd2.left.fr a ha⟩
theorem ev_lcG (own : List (Str × Nat)) (hN : X.N.Nodup) (ok : BlkOk X.N X.env.scope scope own) (h : LcH X W R elt tg iter ifs scope own δ I P)
    (hc : X.calm = true := by rfl) (hs : ∀ x, foldedSetIterable iter X.env x = pure x := by intro _; rfl) : EvX X W R (.ListComp elt [⟨tg, iter, ifs, 0⟩] scope pos) δ I P := fun σ G H Q hE s hI qx q =>
  PE.wp (pe_lc hc hN piC ok (fun s0 H0 C cl fp => ⟨fun pins s σ H v u Q J r k => (k s0 H0 C cl fp).run pins s u J r⟩) (fun s0 H0 C cl fp => ⟨fun pins s σ H Q J k => (k s0 H0 C cl fp).run pins s J⟩) (fun s0 H0 C cl fp => ⟨fun pins s σ H Q J k => (k s0 H0 C cl fp).run pins s J⟩) hs) (lcH_t h hE s hI qx q)
/-- name = [..], the name a local -/
theorem s_setLc (i : Nat) {y : Str} {py spos : Pos} (own : List (Str × Nat)) (h : LcH X W (κ.r δ) elt tg iter ifs scope own δ I fun d I1 => κ.nx (δ.set i (some d)) I1) (hN : X.N.Nodup := by assumption) (hi : X.N[i]? = some y := by rfl) (hyl : X.env.scope.names.lookup y = some .local := by rfl)
    (hsw : swapsWith (.ListComp elt [⟨tg, iter, ifs, 0⟩] scope pos) (some (.Name y py)) spos.line X.env = pure true := by exact sw_true rfl rfl rfl (by decide +kernel)) (ok : blkC X.N X.env.scope scope own = true := by rfl)
    (hc : X.calm = true := by rfl) (hs : ∀ x, foldedSetIterable iter X.env x = pure x := by intro _; rfl) : S1 X W (.Assign [.Name y py] (.ListComp elt [⟨tg, iter, ifs, 0⟩] scope pos) spos) δ I κ := fun σ G H E hE s hI k =>
  PS.wp (ps_setLc hc hN hi hyl hsw piC (blkOk_by ok) (fun s0 H0 C cl fp => ⟨fun pins s σ H v u Q J r k => (k s0 H0 C cl fp).run pins s u J r⟩) (fun s0 H0 C cl fp => ⟨fun pins s σ H Q J k => (k s0 H0 C cl fp).run pins s J⟩) (fun s0 H0 C cl fp => ⟨fun pins s σ H Q J k => (k s0 H0 C cl fp).run pins s J⟩) hs)
    (lcH_t h hE s hI (k.kx hE) fun v d G1 H1 I1 s1 t1 h1 r1 p => k.nx _ _ G1 H1 I1 s1 t1 h1 ((hE.mono s1).set r1) p)
theorem take_filter {α : Type} {xs : List α} {i : Nat} {x : α} (t : α → Bool) (h : xs[i]? = some x) : (xs.take (i + 1)).filter t = (xs.take i).filter t ++ if t x = true then [x] else [] := by
  rw [take_snoc h, List.filter_append]
  cases q : t x <;> simp [q]
/-- [f x for x in xs if t x], xs typed -/
theorem lcT {α : Type} {xs : List α} {g : α → D} (f : α → D) (t : α → Bool) (own : List (Str × Nat)) (δ' : α → DEnv) (hi : PVI X I tg iter δ (xs.map g)) (hz : xs.length ≤ 1000000)
    (hb : ∀ (x : α) (s : Shared) (H : Hp) (C : Addr) (cl : List (Str × Addr)) (fp : List Addr), BindD (X.blk s H scope (compEnvC scope cl C X.env) fp) tg (g x) (wipeD δ (own.map (·.2))) (δ' x) (own.map (·.2)))
    (ht : ∀ x, x ∈ xs → ∀ (J : Iv X.K) (s : Shared) (H : Hp) (C : Addr) (cl : List (Str × Addr)) (fp : List Addr), PVT (X.blk s H scope (compEnvC scope cl C X.env) fp) (I.and J) c (δ' x) (t x))
    (he : ∀ x, x ∈ xs → t x = true → ∀ (J : Iv X.K) (s : Shared) (H : Hp) (C : Addr) (cl : List (Str × Addr)) (fp : List Addr), PV (X.blk s H scope (compEnvC scope cl C X.env) fp) (I.and J) elt (δ' x) (f x)) (pp : P (.lst ((xs.filter t).map f)) I) : LcH X W R elt tg iter [c] scope own δ I P := by
  refine hi W R _ ⟨by simpa using hz, fun i ys => ys = ((xs.take i).filter t).map f, rfl, ?_, fun ys e => ?_⟩
  · rintro i d ys hd rfl
    obtain ⟨x, hx, rfl⟩ := get_map hd
    have hm : x ∈ xs := List.mem_of_getElem? hx
    refine ⟨fun b => b = t x, δ' x, fun J s H C cl fp => ⟨hb x s H C cl fp, ets_one ((ht x hm J s H C cl fp).ev ⟨rfl, rfl⟩)⟩, fun e J s H C cl fp => ((he x hm e.symm J s H C cl fp).ev ⟨rfl, ?_⟩), fun e => ?_⟩
    · show _ = ((xs.take (i + 1)).filter t).map f
      rw [take_filter t hx, ← e]; simp
    · show _ = ((xs.take (i + 1)).filter t).map f
      rw [take_filter t hx, ← e]; simp
  · have e : ys = ((xs.take (xs.map g).length).filter t).map f := e
    rw [List.length_map, List.take_length] at e
    rw [e]; exact pp
theorem lcM {α : Type} {xs : List α} {g : α → D} (f : α → D) (own : List (Str × Nat)) (δ' : α → DEnv) (hi : PVI X I tg iter δ (xs.map g)) (hz : xs.length ≤ 1000000)
    (hb : ∀ (x : α) (s : Shared) (H : Hp) (C : Addr) (cl : List (Str × Addr)) (fp : List Addr), BindD (X.blk s H scope (compEnvC scope cl C X.env) fp) tg (g x) (wipeD δ (own.map (·.2))) (δ' x) (own.map (·.2)))
    (he : ∀ x, x ∈ xs → ∀ (J : Iv X.K) (s : Shared) (H : Hp) (C : Addr) (cl : List (Str × Addr)) (fp : List Addr), PV (X.blk s H scope (compEnvC scope cl C X.env) fp) (I.and J) elt (δ' x) (f x)) (pp : P (.lst (xs.map f)) I) : LcH X W R elt tg iter [] scope own δ I P := by
  refine hi W R _ ⟨by simpa using hz, fun i ys => ys = (xs.take i).map f, rfl, ?_, fun ys e => ?_⟩
  · rintro i d ys hd rfl
    obtain ⟨x, hx, rfl⟩ := get_map hd
    have hm : x ∈ xs := List.mem_of_getElem? hx
    refine ⟨fun b => b = true, δ' x, fun J s H C cl fp => ⟨hb x s H C cl fp, ets_nil ⟨rfl, rfl⟩⟩, fun e J s H C cl fp => ((he x hm J s H C cl fp).ev ⟨rfl, ?_⟩), fun e => nomatch (show false = true from e)⟩
    show _ = (xs.take (i + 1)).map f
    rw [take_snoc hx, List.map_append]; rfl
  · have e : ys = (xs.take (xs.map g).length).map f := e
    rw [List.length_map, List.take_length] at e
    rw [e]; exact pp
theorem pv_lcT {α : Type} {xs : List α} {g : α → D} (f : α → D) (t : α → Bool) (own : List (Str × Nat)) (δ' : α → DEnv) (hi : PVI X I tg iter δ (xs.map g)) (hz : xs.length ≤ 1000000)
    (hb : ∀ (x : α) (s : Shared) (H : Hp) (C : Addr) (cl : List (Str × Addr)) (fp : List Addr), BindD (X.blk s H scope (compEnvC scope cl C X.env) fp) tg (g x) (wipeD δ (own.map (·.2))) (δ' x) (own.map (·.2)))
    (ht : ∀ x, x ∈ xs → ∀ (J : Iv X.K) (s : Shared) (H : Hp) (C : Addr) (cl : List (Str × Addr)) (fp : List Addr), PVT (X.blk s H scope (compEnvC scope cl C X.env) fp) (I.and J) c (δ' x) (t x))
    (he : ∀ x, x ∈ xs → t x = true → ∀ (J : Iv X.K) (s : Shared) (H : Hp) (C : Addr) (cl : List (Str × Addr)) (fp : List Addr), PV (X.blk s H scope (compEnvC scope cl C X.env) fp) (I.and J) elt (δ' x) (f x))
    (hN : X.N.Nodup := by assumption) (ok : blkC X.N X.env.scope scope own = true := by rfl)
    (hc : X.calm = true := by rfl) (hs : ∀ x, foldedSetIterable iter X.env x = pure x := by intro _; rfl) : PV X I (.ListComp elt [⟨tg, iter, [c], 0⟩] scope pos) δ (.lst ((xs.filter t).map f)) := fun W R P pp =>
  ev_lcG own hN (blkOk_by ok) (lcT f t own δ' hi hz hb ht he pp) hc hs
theorem pv_lcTM {α : Type} {xs : List α} {g : α → D} (f : α → D) (own : List (Str × Nat)) (δ' : α → DEnv) (hi : PVI X I tg iter δ (xs.map g)) (hz : xs.length ≤ 1000000)
    (hb : ∀ (x : α) (s : Shared) (H : Hp) (C : Addr) (cl : List (Str × Addr)) (fp : List Addr), BindD (X.blk s H scope (compEnvC scope cl C X.env) fp) tg (g x) (wipeD δ (own.map (·.2))) (δ' x) (own.map (·.2)))
    (he : ∀ x, x ∈ xs → ∀ (J : Iv X.K) (s : Shared) (H : Hp) (C : Addr) (cl : List (Str × Addr)) (fp : List Addr), PV (X.blk s H scope (compEnvC scope cl C X.env) fp) (I.and J) elt (δ' x) (f x))
    (hN : X.N.Nodup := by assumption) (ok : blkC X.N X.env.scope scope own = true := by rfl)
    (hc : X.calm = true := by rfl) (hs : ∀ x, foldedSetIterable iter X.env x = pure x := by intro _; rfl) : PV X I (.ListComp elt [⟨tg, iter, [], 0⟩] scope pos) δ (.lst (xs.map f)) := fun W R P pp =>
  ev_lcG own hN (blkOk_by ok) (lcM f own δ' hi hz hb he pp) hc hs
end

/-! ### dict comprehensions -/
section
variable {X : Cx} {W : WX} {R : Rx X.K} {tg iter kx vx : Expr} {scope : Scope} {δ : DEnv} {I : Iv X.K} {P : D → Iv X.K → Prop} {pos : Pos}
def putAll {α : Type} : List (Key × α) → List (Key × α) → List (Key × α)
  | acc, [] => acc
  | acc, p :: ps => putAll (putG acc p.1 p.2) ps
theorem putAll_snoc {α : Type} (p : Key × α) : ∀ (ps acc : List (Key × α)), putAll acc (ps ++ [p]) = putG (putAll acc ps) p.1 p.2
  | [], _ => rfl
  | q :: ps, acc => putAll_snoc p ps (putG acc q.1 q.2)
theorem putG_len {α : Type} (acc : List (Key × α)) (k : Key) (v : α) : (putG acc k v).length ≤ acc.length + 1 := by
  unfold putG
  split <;> simp
theorem putG_new {α : Type} {acc : List (Key × α)} {k : Key} {v : α} (h : k ∉ acc.map (·.1)) : putG acc k v = acc ++ [(k, v)] := by
  unfold putG
  rw [if_neg]
  intro q
  obtain ⟨z, hz, e⟩ := List.any_eq_true.mp q
  exact h (List.mem_map.mpr ⟨z, hz, of_decide_eq_true e⟩)
theorem putAll_new {α : Type} : ∀ (ps acc : List (Key × α)), ((acc ++ ps).map (·.1)).Nodup → putAll acc ps = acc ++ ps
  | [], acc, _ => by simp [putAll]
  | p :: ps, acc, h => by
    have hn : p.1 ∉ acc.map (·.1) := by
      intro q
      rw [List.map_append, List.map_cons] at h
      exact (List.nodup_append.mp h).2.2 _ q _ (List.mem_cons_self ..) rfl
    show putAll (putG acc p.1 p.2) ps = _
    rw [putG_new hn, putAll_new ps _ (by rw [List.append_assoc]; exact h), List.append_assoc]; rfl
/-- {k x: v x for x in xs}, for good -/
theorem pv_dcT {α : Type} {xs : List α} {g : α → D} (fk : α → Key) (f : α → D) (own : List (Str × Nat)) (δ' : α → DEnv) (hi : PVI X I tg iter δ (xs.map g)) (hz : xs.length ≤ 1000000)
    (hb : ∀ (x : α) (s : Shared) (H : Hp) (C : Addr) (cl : List (Str × Addr)) (fp : List Addr), BindD (X.blk s H scope (compEnvC scope cl C X.env) fp) tg (g x) (wipeD δ (own.map (·.2))) (δ' x) (own.map (·.2)))
    (hk : ∀ x, x ∈ xs → ∀ (J : Iv X.K) (s : Shared) (H : Hp) (C : Addr) (cl : List (Str × Addr)) (fp : List Addr), PV (X.blk s H scope (compEnvC scope cl C X.env) fp) (I.and J) kx (δ' x) (keyV (fk x)))
    (he : ∀ x, x ∈ xs → ∀ (J : Iv X.K) (s : Shared) (H : Hp) (C : Addr) (cl : List (Str × Addr)) (fp : List Addr), PV (X.blk s H scope (compEnvC scope cl C X.env) fp) (I.and J) vx (δ' x) (f x))
    (nd : (xs.map fk).Nodup)
    (hN : X.N.Nodup := by assumption) (ok : blkC X.N X.env.scope scope own = true := by rfl)
    (hc : X.calm = true := by rfl) (hs : ∀ x, foldedSetIterable iter X.env x = pure x := by intro _; rfl) : PV X I (.DictComp kx vx [⟨tg, iter, [], 0⟩] scope pos) δ (dicD (xs.map fun x => (fk x, f x))) := fun W R P pp => by
  refine ev_freezeD fun σ G H Q hE s hI qx q => ?_
  refine PE.wp (pe_dc (wi := wpI X tg iter) (g := fun v σ H Q => ∀ s0 H0 C cl fp, wpG (X.blk s0 H0 scope (compEnvC scope cl C X.env) fp) tg v σ H Q) (tt := fun σ H Q => ∀ s0 H0 C cl fp, wpTs (X.blk s0 H0 scope (compEnvC scope cl C X.env) fp) [] σ H Q)
    (tk := fun σ H Q => ∀ s0 H0 C cl fp, wpE (X.blk s0 H0 scope (compEnvC scope cl C X.env) fp) kx σ H Q) (tv := fun σ H Q => ∀ s0 H0 C cl fp, wpE (X.blk s0 H0 scope (compEnvC scope cl C X.env) fp) vx σ H Q) hc hN piC (blkOk_by ok)
    (fun s0 H0 C cl fp => ⟨fun pins s σ H v u Q J r k => (k s0 H0 C cl fp).run pins s u J r⟩) (fun s0 H0 C cl fp => ⟨fun pins s σ H Q J k => (k s0 H0 C cl fp).run pins s J⟩) (fun s0 H0 C cl fp => ⟨fun pins s σ H Q J k => (k s0 H0 C cl fp).run pins s J⟩) (fun s0 H0 C cl fp => ⟨fun pins s σ H Q J k => (k s0 H0 C cl fp).run pins s J⟩) hs) ?_
  refine hi W R (fun ds J => ds = xs.map g ∧ J = I) ⟨rfl, rfl⟩ σ G H _ hE s hI qx fun J ds G1 H1 I1 s1 t1 h1 wk ⟨ed, ei⟩ D hD => ?_
  subst ed ei
  have gD : G1 D = none := t1.free hD
  have apart : ∀ a, ¬ (I1.F a ∧ a = D) := fun a ha => h1.dom ha.1 (by rw [ha.2]; exact hD)
  refine ⟨fun i m H' => m = xs.length - i ∧ i ≤ xs.length ∧ ∃ G', Same G1 G' ∧ Same G' H' ∧ Hd (I1.and (iDic X.K D ((xs.take i).map fun x => (fk x, f x)))) G' H', ⟨_, rfl, Nat.zero_le _, G1, Same.refl _, same_upd t1 gD, ?_⟩, ?_⟩
  · exact Hd.mk2 (h1.newp hD) ⟨⟨_, upd_same, [], rfl, rfl⟩, fun a ha => by rw [show a = D from ha]; exact gD⟩ apart
  · rintro i m H' ⟨rfl, hi, G', s2, t2, hd2⟩
    by_cases hlt : i < xs.length
    · refine .inr ⟨wk.go i G' H' s2 t2 (by simpa using hlt), fun H3 => ∃ G3, Same G1 G3 ∧ Same G3 H3 ∧ Hd (I1.and (iDic X.K D ((xs.take (i + 1)).map fun x => (fk x, f x)))) G3 H3, fun H3 ⟨G3, q3, q4, q5⟩ => ⟨xs.length - (i + 1), by omega, rfl, hlt, G3, q3, q4, q5⟩, fun x H3 hyl => ?_⟩
      obtain ⟨G3, s3, t3, h3, _, d, hd, rd⟩ := wk.yld i G' H' _ x H3 s2 t2 hd2 (by simpa using hlt) hyl
      obtain ⟨x0, hx, rfl⟩ := get_map hd
      have hm : x0 ∈ xs := List.mem_of_getElem? hx
      intro s0 H0 C cl fp
      refine hb x0 s0 H0 C cl fp x _ G3 H3 _ (((hE.mono s1).mono (s2.trans s3)).wipe _) t3 rd fun σ4 e4 ew => ⟨by rw [ew, wipe_wipe], ?_⟩
      intro s0 H0 C cl fp
      refine (ets_nil (X := X.blk s0 H0 scope (compEnvC scope cl C X.env) fp) (PB := fun b I2 => b = true ∧ I2 = I1.and (iDic X.K D ((xs.take i).map fun x => (fk x, f x)))) ⟨rfl, rfl⟩) σ4 G3 H3 _ e4 t3 h3 kx0 fun b G4 H4 I4 s4 t4 h4 ⟨eb, eI⟩ => ?_
      subst eb eI
      rw [if_pos rfl]
      intro s0 H0 C cl fp
      refine hk x0 hm (iDic X.K D _) s0 H0 C cl fp W0 R0 (fun z J => z = keyV (fk x0) ∧ J = I1.and (iDic X.K D ((xs.take i).map fun x => (fk x, f x)))) ⟨rfl, rfl⟩ σ4 G4 H4 _ (e4.mono s4) t4 h4 kx0 fun y dy G5 H5 I5 s5 t5 h5 r5 ⟨ey, eI⟩ => ?_
      subst ey eI
      intro s0 H0 C cl fp
      refine he x0 hm (iDic X.K D _) s0 H0 C cl fp W0 R0 (fun z J => z = f x0 ∧ J = I1.and (iDic X.K D ((xs.take i).map fun x => (fk x, f x)))) ⟨rfl, rfl⟩ σ4 G5 H5 _ ((e4.mono s4).mono s5) t5 h5 kx0 fun y2 dy2 G6 H6 I6 s6 t6 h6 r6 ⟨ey2, eI2⟩ => ?_
      subst ey2 eI2
      obtain ⟨o, ho, kvs, ev, kr⟩ := h6.right.ph
      subst ev
      have g6 : G6 D = none := h6.right.fr D rfl
      have hkey : y = kV (fk x0) := by
        have := rep_keyV (K := X.K) (G := G5) (fk x0)
        cases hh : fk x0 with
        | inl i => rw [hh] at r5; exact r5
        | inr t => rw [hh] at r5; exact r5
      have hnew : fk x0 ∉ (((xs.take i).map fun x => (fk x, f x)).map (·.1)) := by
        rw [List.map_map]
        intro q
        have e2 : xs.map fk = (xs.take i).map fk ++ fk x0 :: (xs.drop (i + 1)).map fk := by
          have e : xs = xs.take i ++ x0 :: xs.drop (i + 1) := by
            have hl := (List.getElem?_eq_some_iff.mp hx).1
            rw [← (List.getElem?_eq_some_iff.mp hx).2, List.getElem_cons_drop hl, List.take_append_drop]
          conv => lhs; rw [e]
          rw [List.map_append, List.map_cons]
        rw [e2] at nd
        exact (List.nodup_append.mp nd).2.2 _ q _ (List.mem_cons_self ..) rfl
      refine ⟨kvs, fk x0, hkey, ho, ?_, G6, (((s2.trans s3).trans s4).trans s5).trans s6, same_upd t6 g6, ?_⟩
      · rw [kr.length, List.length_map, List.length_take, sizeLine_eq]; omega
      · have e7 : (xs.take (i + 1)).map (fun x => (fk x, f x)) = putG ((xs.take i).map fun x => (fk x, f x)) (fk x0) (f x0) := by
          rw [putG_new hnew, take_snoc hx, List.map_append]; rfl
        rw [e7]
        exact Hd.mk2 (h6.left.chg fun hf => apart D ⟨hf, rfl⟩) ⟨⟨_, upd_same, _, rfl, kr.put r6⟩, h6.right.fr⟩ apart
    · have ei : i = xs.length := by omega
      subst ei
      rw [List.take_length] at hd2
      refine .inl ⟨by have := wk.stop G' H' s2 t2; rwa [List.length_map] at this, q (.ref D) (.adr D) G' H' (I1.and (iDic X.K D (xs.map fun x => (fk x, f x)))) (s1.trans s2) t2 hd2 rfl ⟨D, _, I1, rfl, rfl, pp⟩⟩
end
end DL
set_option Elab.async false
set_option linter.all false
set_option maxRecDepth 100000
set_option maxHeartbeats 4000000
namespace DL
open PySem PySem.Spec PyProof.Rows L2
/-! ### isinstance(x, (T, ..)) -/
def rIsiTT (K : PySem.W.Frag) : List V → Hp → VK → Prop := fun xs H Q => ∃ (x : V) (tp : Addr) (cs : List V) (t : Value) (us : List Value) (b : Bool), xs = [x, .ref tp] ∧ SqT K H tp cs ∧ Paired ClsV cs us ∧ TyX K H x t ∧ PySem.W.kitAny K t us = some b ∧ Q (.bl b) H
theorem call_isiTT {X : Cx} : CallR X (.builtin "isinstance") (rIsiTT X.K) := by
  intro pins s σ H xs us Q I r h
  obtain ⟨x, tp, cs, t, ws, b, rfl, hT, k, ty, e, q⟩ := h
  obtain ⟨u1, u2, rfl, r1, r2⟩ := vals2 r
  cases (show u2 = Value.ref tp from r2)
  obtain ⟨P, Z, p, hx⟩ := kit_of I r1 ty
  obtain ⟨its, rv, ⟨o, h1, h2, n, h3⟩, _⟩ := I.tuple hT
  have e3 := ClsV.all k rv
  subst e3
  obtain ⟨oc, od, dt, sl⟩ := o
  simp only at h2 h3
  subst h2 h3
  exact PySem.W.kia_tup Z I.kIn p h1 e hx fun tk => ⟨.bl b, H, I.tok tk, rfl, q⟩
theorem pn_isiT2 {K : PySem.W.Frag} {I : Iv K} {d : D} {t u1 u2 : String} {b : Bool} (h : tyD d = some t) (hb : PySem.W.kitAny K (.type t) [.type u1, .type u2] = some b) : PN K I (rIsiTT K) [d, .tup [.ty u1, .ty u2]] (.bl b) := fun P p G H vs Q s hI ⟨v, r, e1, e2, v2, r2, e3, ⟨tp, cs, ec, st, w1, r1, ew, q1, w2, r2', ew2, q2, er⟩, e5⟩ q => by
  subst e1 e3 ec ew ew2
  rw [show r2' = [] from er, show w1 = .ty u1 from q1, show w2 = .ty u2 from q2] at st
  rw [show r2 = [] from e5]
  exact ⟨v, tp, _, .type t, [.type u1, .type u2], b, rfl, sqT_mono s st, .cons (.ty u1) (.cons (.ty u2) .nil), tyX_of s e2 h, hb, q _ (.bl b) G H I (Same.refl G) s hI rfl p⟩
theorem kit2 {K : PySem.W.Frag} {t u1 u2 : String} {b1 b2 : Bool} (h1 : kitB t u1 = some b1) (h2 : kitB t u2 = some b2) : PySem.W.kitAny K (.type t) [.type u1, .type u2] = some (b1 || b2) :=
  kitAny_cons (kit_ty h1) (fun e => kitAny_cons (kit_ty h2) (fun e2 => by rw [e, e2]; rfl) (fun e2 => by rw [e2, e]; rfl)) (fun e => by rw [e]; rfl)

/-! ### len -/
class LenC (x : D) (n : outParam Int) (C : outParam Prop) : Prop where
  h : C → ∀ (X : Cx) (I : Iv X.K), ∃ r, CallR X (.builtin "len") r ∧ PN X.K I r [x] (.int n)
instance {ds : List D} : LenC (.lst ds) (ds.length : Int) True := ⟨fun _ X I => ⟨_, call_len_seq, pn_lenL⟩⟩
instance {ds : List D} : LenC (.tup ds) (ds.length : Int) True := ⟨fun _ X I => ⟨_, call_len_seq, pn_lenT⟩⟩
instance {ds : List D} : LenC (.lsf ds) (ds.length : Int) True := ⟨fun _ X I => ⟨_, call_len_seq, fun P p G H vs Q s hI ⟨v, r, e1, ⟨a, xs, ea, e2, e3⟩, er⟩ q => by
  rw [e1, ea, show r = [] from er]
  exact ⟨a, xs, rfl, .inl (sqL_mono s e2), by rw [e3.length]; exact q _ (.int ds.length) G H _ (Same.refl G) s hI rfl p⟩⟩⟩
instance {s : Str} : LenC (.str s) (s.length : Int) (s.length ≤ 100000) := ⟨fun c X I => ⟨_, call_len_str, pn_lenS c⟩⟩
theorem call_lenDR {X : Cx} : CallR X (.builtin "len") (fun xs H Q => ∃ a kvs, xs = [V.ref a] ∧ Rd H a (.dK kvs) ∧ Q (.int kvs.length) H) := by
  intro pins s σ H xs us Q I r h
  obtain ⟨a, kvs, rfl, ha, q⟩ := h
  obtain ⟨u, rfl, ru⟩ := vals1 r
  cases ru
  exact d_len I ha fun t s' I' => ⟨.int kvs.length, H, I', ⟨t, rfl⟩, q⟩
theorem lenC_dic {kds : List (Key × D)} : LenC (dicD kds) (kds.length : Int) True := ⟨fun _ X I => ⟨_, call_lenDR, fun P p G H vs Q s hI ⟨v, r, e1, rd, er⟩ q => by
  obtain ⟨a, od, kvs, rfl, e2, kr⟩ := rep_dicD.mp rd
  rw [e1, show r = [] from er]
  exact ⟨a, kvs, rfl, .inr ⟨od, s _ _ e2⟩, by rw [kr.length]; exact q _ (.int kds.length) G H _ (Same.refl G) s hI rfl p⟩⟩⟩
instance {kds : List (Key × D)} : LenC (dicD kds) (kds.length : Int) True := lenC_dic
instance {ks : List Key} {ds : List D} : LenC (.dic ks ds) (ds.length : Int) (ks.length = ds.length) := ⟨fun c X I => by
  have e : dicD (ks.zip ds) = .dic ks ds := by
    show D.dic ((ks.zip ds).map (·.1)) ((ks.zip ds).map (·.2)) = _
    rw [show (ks.zip ds).map (·.1) = ks from List.map_fst_zip (by omega), show (ks.zip ds).map (·.2) = ds from List.map_snd_zip (by omega)]
  obtain ⟨r, h1, h2⟩ := (lenC_dic (kds := ks.zip ds)).h trivial X I
  rw [e] at h2
  have e2 : (ks.zip ds).length = ds.length := by rw [List.length_zip]; omega
  rw [e2] at h2
  exact ⟨r, h1, h2⟩⟩
section
variable {X : Cx} {I : Iv X.K} {a b c e o : Expr} {es : List Expr} {δ : DEnv} {pos p : Pos} {x y z : D} {n : Int} {C : Prop} {k : Bool} {W : WX} {κ : Ko X.K} {ds fs : List D} {q : Addr}
theorem pv_len (hm : X.mg "len" = none) (ha : PV X I a δ x) [L : LenC x n C] (c : C) (hg : Gl X "len" := by rfl) (h1 : starEach [a] X.env = (false, eval a X.env) :: starEach [] X.env := by rfl) (hpl : (backTo pos (starEach [] X.env)).any (·.1) = false := by rfl) : PV X I (.Call (.Name "len" p) [a] [] pos) δ (.int n) := by
  obtain ⟨r, h1', h2⟩ := L.h c X I
  exact pv_cb h1' hm (va_cons ha va_nil h1) h2 (by decide +kernel) hg (by decide) (by decide) h1 hpl
/-! ### in, not in by the kinds of data -/
end
def allStr : List D → Bool
  | [] => true
  | .str _ :: ds => allStr ds
  | _ => false
def strIn (s : Str) : List D → Bool
  | [] => false
  | .str t :: ds => decide (s = t) || strIn s ds
  | _ :: ds => strIn s ds
@[simp] theorem strIn_map (s : Str) : ∀ ws : List Str, strIn s (ws.map D.str) = decide (s ∈ ws)
  | [] => by simp [strIn]
  | w :: ws => by
    show (decide (s = w) || strIn s (ws.map D.str)) = _
    rw [strIn_map s ws]
    exact Bool.eq_iff_iff.mpr (by simp)
@[simp] theorem allStr_map : ∀ ws : List Str, allStr (ws.map D.str) = true
  | [] => rfl
  | _ :: ws => allStr_map ws
theorem allStr_ex : ∀ {ds : List D}, allStr ds = true → ∃ ws : List Str, ds = ws.map D.str
  | [], _ => ⟨[], rfl⟩
  | d :: ds, h => by
    cases d <;> first | cases h | skip
    rename_i s
    obtain ⟨ws, e⟩ := allStr_ex (ds := ds) h
    exact ⟨s :: ws, by rw [e]; rfl⟩
class InC (x y : D) (b : outParam Bool) (C : outParam Prop) : Prop where
  e : C → ∀ (X : Cx) (I : Iv X.K), X.A.units + 65 < cLine → ∃ r, OpR X (compareOp .In) r ∧ P2 X.K I r x y (.bl b)
  n : C → ∀ (X : Cx) (I : Iv X.K), X.A.units + 65 < cLine → ∃ r, OpR X (compareOp .NotIn) r ∧ P2 X.K I r x y (.bl (!b))
instance {s : Str} {ds : List D} : InC (.str s) (.tup ds) (strIn s ds) (allStr ds = true) := ⟨fun c X I _ => by
  obtain ⟨ws, rfl⟩ := allStr_ex c
  rw [strIn_map]; exact ⟨_, op_in_seq, p2_inStr⟩, fun c X I _ => by
  obtain ⟨ws, rfl⟩ := allStr_ex c
  rw [strIn_map]; exact ⟨_, op_notIn_seq, p2_ninStr⟩⟩
instance {s : Str} {ds : List D} : InC (.str s) (.lst ds) (strIn s ds) (allStr ds = true) := ⟨fun c X I _ => by
  obtain ⟨ws, rfl⟩ := allStr_ex c
  rw [strIn_map]; exact ⟨_, op_in_seq, p2_inStrL⟩, fun c X I _ => by
  obtain ⟨ws, rfl⟩ := allStr_ex c
  rw [strIn_map]; exact ⟨_, op_notIn_seq, p2_ninStrL⟩⟩
theorem InC.data {x z : D} {ds : List D} (hz : itemsD z = some ds) : InC x z (ds.any fun y => eqD y x) (OkD 64 x ∧ ∀ d ∈ ds, OkD 64 d) :=
  ⟨fun c X I hu => ⟨_, op_inDT hu, p2_inD hz c.1 c.2⟩, fun c X I hu => ⟨_, op_notInDT hu, p2_ninD hz c.1 c.2⟩⟩
instance {xs ds : List D} : InC (.tup xs) (.tup ds) (ds.any fun y => eqD y (.tup xs)) (OkD 64 (.tup xs) ∧ ∀ d ∈ ds, OkD 64 d) := .data rfl
instance {xs ds : List D} : InC (.tup xs) (.lst ds) (ds.any fun y => eqD y (.tup xs)) (OkD 64 (.tup xs) ∧ ∀ d ∈ ds, OkD 64 d) := .data rfl
section
variable {X : Cx} {I : Iv X.K} {a b c e o : Expr} {es : List Expr} {δ : DEnv} {pos p : Pos} {x y z : D} {n : Int} {C : Prop} {k : Bool} {W : WX} {κ : Ko X.K} {ds fs : List D} {q : Addr}
theorem pv_in (hu : X.A.units + 65 < cLine) (ha : PV X I a δ x) (hb : PV X I b δ y) [E : InC x y k C] (c : C) (hm : behindInMarks .In b = false := by rfl) : PV X I (.Compare a [.In] [b] pos) δ (.bl k) := by
  obtain ⟨r, ho, h⟩ := E.e c X I hu
  exact pv_cmp ho ha hb h hm
theorem pv_nin (hu : X.A.units + 65 < cLine) (ha : PV X I a δ x) (hb : PV X I b δ y) [E : InC x y k C] (c : C) (hm : behindInMarks .NotIn b = false := by rfl) : PV X I (.Compare a [.NotIn] [b] pos) δ (.bl (!k)) := by
  obtain ⟨r, ho, h⟩ := E.n c X I hu
  exact pv_cmp ho ha hb h hm
theorem pt_in (hu : X.A.units + 65 < cLine) (ha : PV X I a δ x) (hb : PV X I b δ y) [E : InC x y k C] (c : C) (hm : behindInMarks .In b = false := by rfl) : PVT X I (.Compare a [.In] [b] pos) δ k := by
  obtain ⟨r, ho, h⟩ := E.e c X I hu
  exact pt_cmp ho ha hb h hm
theorem pt_nin (hu : X.A.units + 65 < cLine) (ha : PV X I a δ x) (hb : PV X I b δ y) [E : InC x y k C] (c : C) (hm : behindInMarks .NotIn b = false := by rfl) : PVT X I (.Compare a [.NotIn] [b] pos) δ (!k) := by
  obtain ⟨r, ho, h⟩ := E.n c X I hu
  exact pt_cmp ho ha hb h hm
/-! ### lists that may change: extend, clear -/
theorem s_extend (c : Rc X.K) {apos ep : Pos} (ho : PV X I o δ (.adr q)) (hI0 : I = c.fill (iLst X.K q ds)) (h : PV X I e δ (.lst fs)) (hz : ds.length + fs.length < 1000000) (nx : κ.nx δ (c.fill (iLst X.K q (ds ++ fs))))
    (hbase : attributeBase o "extend" X.env (eval o X.env) = eval o X.env := by rfl)
    (hfew : ((backTo pos (starEach [e] X.env)).all (fun x => !x.1) && (backToKw pos (keywordEach [] X.env)).all (fun x => x.1.isSome) && decide ([e].length + ([] : List Keyword).length + (if ([] : List Keyword).isEmpty then 0 else 1) < 30)) = true := by rfl)
    (hline : (apos.endLine == pos.line) = true := by rfl) (hst : starEach [e] X.env = (false, eval e X.env) :: starEach [] X.env := by rfl) (hpl : (backTo pos (starEach [] X.env)).any (·.1) = false := by rfl)
    (hs : swapsWith (.Call (.Attribute o "extend" apos) [e] [] pos) none ep.line X.env = pure false := by rfl) : S1 X W (.Expr (.Call (.Attribute o "extend" apos) [e] [] pos) ep) δ I κ := fun σ G H E hE s hI k =>
  PS.wp (ps_expr (pe_bm PySem.F.plainAttrs_list PySem.F.slot_list_extend PySem.F.type_list_extend mt_extend peC (pa_cons peC pa_nil hst) hbase hfew hline hst hpl) hs) (ho W (κ.r δ) (fun z I1 => z = .adr q ∧ I1 = I) ⟨rfl, rfl⟩ σ G H _ hE s hI (k.kx hE) fun v d1 G1 H1 I1 s1 t1 h1 r1 ⟨ed, ei⟩ => by
    subst ed ei hI0
    obtain ⟨vs, hp, rv, gp⟩ := h1.lst
    obtain rfl : v = .ref q := r1
    refine ⟨.inl ⟨rfl, _, .inl (.inl hp)⟩, ?_⟩
    refine h W (κ.r δ) (fun z I1 => z = .lst fs ∧ I1 = c.fill (iLst X.K q ds)) ⟨rfl, rfl⟩ σ G1 H1 _ (hE.mono s1) t1 h1 ((k.kx hE).mono s1) fun w d2 G2 H2 I2 s2 t2 h2 rr ⟨ed2, ei⟩ => ?_
    subst ei ed2
    obtain ⟨b, zs, ew, eb, rz⟩ := rr
    obtain ⟨vs2, hp2, rv2, gp2⟩ := h2.lst
    refine ⟨q, b, vs2, zs, rfl, by rw [ew], hp2, t2 _ _ eb, by rw [rv2.length, rz.length, sizeLine_eq]; omega, ?_⟩
    exact k.nx δ σ G2 _ _ (s1.trans s2) (same_upd t2 gp2) (h2.lstSet (rv2.append rz)) (hE.mono (s1.trans s2)) nx)
theorem s_clear (c : Rc X.K) {apos ep : Pos} (ho : PV X I o δ (.adr q)) (hI0 : I = c.fill (iLst X.K q ds)) (nx : κ.nx δ (c.fill (iLst X.K q [])))
    (hbase : attributeBase o "clear" X.env (eval o X.env) = eval o X.env := by rfl)
    (hline : (apos.endLine == pos.line) = true := by rfl)
    (hs : swapsWith (.Call (.Attribute o "clear" apos) [] [] pos) none ep.line X.env = pure false := by rfl) : S1 X W (.Expr (.Call (.Attribute o "clear" apos) [] [] pos) ep) δ I κ := fun σ G H E hE s hI k =>
  PS.wp (ps_expr (pe_bm0 PySem.F.plainAttrs_list PySem.F.slot_list_clear PySem.F.type_list_clear mt_clear peC hbase hline) hs) (ho W (κ.r δ) (fun z I1 => z = .adr q ∧ I1 = I) ⟨rfl, rfl⟩ σ G H _ hE s hI (k.kx hE) fun v d1 G1 H1 I1 s1 t1 h1 r1 ⟨ed, ei⟩ => by
    subst ed ei hI0
    obtain ⟨vs, hp, rv, gp⟩ := h1.lst
    obtain rfl : v = .ref q := r1
    refine ⟨.inl ⟨rfl, _, .inl (.inl hp)⟩, q, vs, rfl, rfl, hp, ?_⟩
    exact k.nx δ σ G1 _ _ s1 (same_upd t1 gp) (h1.lstSet (es := []) (ws := []) rfl) (hE.mono s1) nx)
/-- [..] whose items change nothing, to be changed -/
theorem ev_lstM' {R : Rx X.K} {P : D → Iv X.K → Prop} (h : PVA X I es δ ds) (hl : ds.length ≤ 1000) (hp : ∀ p, P (.adr p) (I.and (iLst X.K p ds))) : EvX X W R (.List es pos) δ I P := ev_lstM h hl fun p _ => hp p
end
/-! ### tuple(..), sum, any -/
section
variable {K : PySem.W.Frag} {I : Iv K} {d : D} {ds : List D}
theorem pn_tupL (h : d = .lst ds ∨ d = .lsf ds ∨ d = .tup ds) : PN K I (fun xs H Q => ∃ p ys, xs = [.ref p] ∧ ((SqL K H p ys ∧ ∀ l, H l = none → Q (.ref l) (upd H l (.tup ys))) ∨ (SqT K H p ys ∧ Q (.ref p) H))) [d] (.tup ds) := fun P pp G H vs Q s hI ⟨v, r, e1, rd, er⟩ q => by
  rw [e1, show r = [] from er]
  have fin : ∀ ys l, Reps K G ds ys → H l = none → Q (.ref l) (upd H l (.tup ys)) := fun ys l rr hl => by
    have hg : G l = none := s.free hl
    exact q (.ref l) (.tup ds) (upd G l (.tup ys)) _ I (Evl.Ex.new hg) (same_upd2 s) (hI.keep hl s) ⟨l, ys, rfl, SqT.of upd_same, rr.mono (Evl.Ex.new hg)⟩ pp
  rcases h with e | e | e
  · subst e
    obtain ⟨a, ys, ea, e2, e3⟩ := rd
    exact ⟨a, ys, by rw [ea], .inl ⟨SqL.of (s _ _ e2), fun l hl => fin ys l e3 hl⟩⟩
  · subst e
    obtain ⟨a, ys, ea, e2, e3⟩ := rd
    exact ⟨a, ys, by rw [ea], .inl ⟨sqL_mono s e2, fun l hl => fin ys l e3 hl⟩⟩
  · subst e
    obtain ⟨a, ys, ea, e2, e3⟩ := rd
    exact ⟨a, ys, by rw [ea], .inr ⟨sqT_mono s e2, q (.ref a) (.tup ds) G H I (Same.refl G) s hI ⟨a, ys, rfl, e2, e3⟩ pp⟩⟩
theorem repsBl {G : Hp} : ∀ {bs : List Bool} {vs : List V}, Reps K G (bs.map D.bl) vs → vs = bs.map V.bl
  | [], _, h => h
  | b :: bs, _, ⟨v, r, e, h2, h3⟩ => by rw [e, show v = .bl b from h2, repsBl h3]; rfl
theorem repsInt' {G : Hp} : ∀ {ns : List Int} {vs : List V}, Reps K G (ns.map D.int) vs → vs = ns.map V.int
  | [], _, h => h
  | b :: bs, _, ⟨v, r, e, h2, h3⟩ => by rw [e, show v = .int b from h2, repsInt' h3]; rfl
theorem pn_any {bs : List Bool} : PN K I (rAny K) [.lst (bs.map D.bl)] (.bl (bs.any id)) := fun P pp G H vs Q s hI ⟨v, r, e1, ⟨a, ys, ea, e2, e3⟩, er⟩ q => by
  rw [e1, show r = [] from er, ea]
  rw [repsBl e3] at e2
  exact ⟨a, bs, rfl, SqL.of (s _ _ e2), q _ (.bl _) G H I (Same.refl G) s hI rfl pp⟩
theorem pn_sum {ns : List Int} : PN K I (rSum K) [.lst (ns.map D.int)] (.int ns.sum) := fun P pp G H vs Q s hI ⟨v, r, e1, ⟨a, ys, ea, e2, e3⟩, er⟩ q => by
  rw [e1, show r = [] from er, ea]
  rw [repsInt' e3] at e2
  exact ⟨a, ns, rfl, SqL.of (s _ _ e2), q _ (.int _) G H I (Same.refl G) s hI rfl pp⟩
theorem pn_min2 {i j : Int} : PN K I (fun xs H Q => ∃ i j, xs = [.int i, .int j] ∧ Q (.int (if j < i then j else i)) H) [.int i, .int j] (.int (if j < i then j else i)) := fun P pp G H vs Q s hI ⟨v, r, e1, e2, v2, r2, e3, e4, e5⟩ q =>
  ⟨i, j, by rw [e1, e3, show v = .int i from e2, show v2 = .int j from e4, show r2 = [] from e5], q _ (.int _) G H I (Same.refl G) s hI rfl pp⟩
end
/-! ### typed walks over dicts -/
abbrev dicT {α : Type} (xs : List α) (k : α → Str) (v : α → D) : D := dicD (xs.map fun x => ((.inr (k x) : Key), v x))
theorem keys_dicT {α : Type} (xs : List α) (k : α → Str) (v : α → D) : ((xs.map fun x => ((.inr (k x) : Key), v x)).map fun p => keyV p.1) = xs.map fun x => D.str (k x) := by
  rw [List.map_map]; rfl
theorem get_dicT {α : Type} {xs : List α} {k : α → Str} {v : α → D} {x : α} (nd : (xs.map k).Nodup) (h : x ∈ xs) : getG (xs.map fun x => ((.inr (k x) : Key), v x)) (.inr (k x)) = some (v x) := by
  unfold getG
  induction xs with
  | nil => cases h
  | cons y ys ih =>
    rw [List.map_cons, List.find?_cons]
    by_cases e : k y = k x
    · have : decide (((.inr (k y) : Key)) = .inr (k x)) = true := decide_eq_true (by rw [e])
      rw [this]
      rcases List.mem_cons.mp h with rfl | hx
      · rfl
      · rw [List.map_cons] at nd
        exact absurd (e ▸ List.mem_map.mpr ⟨x, hx, rfl⟩) (List.nodup_cons.mp nd).1
    · have : decide (((.inr (k y) : Key)) = .inr (k x)) = false := decide_eq_false (by simp [e])
      rw [this]
      rcases List.mem_cons.mp h with rfl | hx
      · exact absurd rfl e
      · rw [List.map_cons] at nd
        exact ih (List.nodup_cons.mp nd).2 hx
theorem getN_dicT {α : Type} {xs : List α} {k : α → Str} {v : α → D} {s : Str} (h : s ∉ xs.map k) : getG (xs.map fun x => ((.inr (k x) : Key), v x)) (.inr s) = none := by
  unfold getG
  rw [Option.map_eq_none_iff, List.find?_eq_none]
  intro z hz q
  obtain ⟨x, hx, rfl⟩ := List.mem_map.mp hz
  have e := of_decide_eq_true q
  exact h (List.mem_map.mpr ⟨x, hx, Sum.inr.inj e⟩)
theorem getI_dicT {α : Type} {xs : List α} {k : α → Str} {v : α → D} {s : Str} : (getG (xs.map fun x => ((.inr (k x) : Key), v x)) (.inr s)).isSome = decide (s ∈ xs.map k) := by
  by_cases h : s ∈ xs.map k
  · rw [decide_eq_true h]
    unfold getG
    rw [Option.isSome_map, List.find?_isSome]
    obtain ⟨x, hx, e⟩ := List.mem_map.mp h
    exact ⟨_, List.mem_map.mpr ⟨x, hx, rfl⟩, decide_eq_true (by rw [e])⟩
  · rw [decide_eq_false h, getN_dicT h]; rfl
section
variable {X : Cx} {I : Iv X.K} {tg iter e : Expr} {δ : DEnv} {pos p : Pos} {α : Type} {xs : List α} {k : α → Str} {v : α → D}
theorem vi_dicT (h : PV X I iter δ (dicT xs k v)) : PVI X I tg iter δ (xs.map fun x => .str (k x)) := by
  have := vi_keys (tg := tg) h
  rwa [keys_dicT] at this
/-- list(d), sorted(list(d)) -/
theorem pv_listD (hm : X.mg "list" = none) (h : PV X I e δ (dicT xs k v)) (hc : X.calm = true := by rfl) (hg : Gl X "list" := by rfl)
    (he : starEach [e] X.env = (false, eval e X.env) :: starEach [] X.env := by rfl) (hpl : (backTo pos (starEach [] X.env)).any (·.1) = false := by rfl) : PV X I (.Call (.Name "list" p) [e] [] pos) δ (.lst ((xs.map k).map D.str)) := by
  have e2 : (xs.map k).map D.str = (xs.map fun x => ((.inr (k x) : Key), v x)).map fun p => keyV p.1 := by rw [keys_dicT, List.map_map]; rfl
  rw [e2]
  exact pv_ct (call_listD hc) hm (va_cons h va_nil he) pn_listD (by decide +kernel) hg (by decide) (by decide) he hpl
theorem pv_sortedS {ss : List Str} (hm : X.mg "sorted" = none) (h : PV X I e δ (.lst (ss.map D.str))) (hz : ss.length < 64) (hg : Gl X "sorted" := by rfl)
    (he : starEach [e] X.env = (false, eval e X.env) :: starEach [] X.env := by rfl) (hpl : (backTo pos (starEach [] X.env)).any (·.1) = false := by rfl) : PV X I (.Call (.Name "sorted" p) [e] [] pos) δ (.lst ((sortS ss).map D.str)) :=
  pv_cb cr_sortedS hm (va_cons h va_nil he) (pn_sortedS hz) (by decide +kernel) hg (by decide) (by decide) he hpl
theorem pv_tuple {d : D} {ds : List D} (hm : X.mg "tuple" = none) (h : PV X I e δ d) (hd : d = .lst ds ∨ d = .lsf ds ∨ d = .tup ds) (hg : Gl X "tuple" := by rfl)
    (he : starEach [e] X.env = (false, eval e X.env) :: starEach [] X.env := by rfl) (hpl : (backTo pos (starEach [] X.env)).any (·.1) = false := by rfl) : PV X I (.Call (.Name "tuple" p) [e] [] pos) δ (.tup ds) :=
  pv_ct call_tuple_of hm (va_cons h va_nil he) (pn_tupL hd) (by decide +kernel) hg (by decide) (by decide) he hpl
theorem pv_list {d : D} {ds : List D} (hm : X.mg "list" = none) (h : PV X I e δ d) (hd : d = .lst ds ∨ d = .lsf ds ∨ d = .tup ds) (hg : Gl X "list" := by rfl)
    (he : starEach [e] X.env = (false, eval e X.env) :: starEach [] X.env := by rfl) (hpl : (backTo pos (starEach [] X.env)).any (·.1) = false := by rfl) : PV X I (.Call (.Name "list" p) [e] [] pos) δ (.lst ds) := fun W R P pp =>
  ev_ct call_list_of hm (ea_cons (h W R _ (ea_nil (on_listK hd pp))) he) (by decide +kernel) hg (by decide) (by decide) he hpl
end
end DL
set_option Elab.async false
set_option linter.all false
set_option maxRecDepth 100000
set_option maxHeartbeats 4000000
namespace DL
open PySem PySem.Spec PyProof.Rows L2
section
variable {X : Cx} {W : WX} {R : Rx X.K} {e a b o tg iter : Expr} {δ : DEnv} {I : Iv X.K} {P : D → Iv X.K → Prop} {pos p apos : Pos} {d z x : D} {ds : List D} {κ : Ko X.K} {es : List Expr} {n m : Int}
/-- a list that changes no more from here -/
theorem ev_freezeL (h : EvX X W R e δ I fun d I1 => ∃ p ds I2, d = .adr p ∧ I1 = I2.and (iLst X.K p ds) ∧ P (.lst ds) I2) : EvX X W R e δ I P := fun σ G H Q hE s hI qx q =>
  h σ G H Q hE s hI qx fun v d G1 H1 I1 s1 t1 h1 r1 ⟨p, ds, I2, ed, ei, pp⟩ => by
    subst ed ei
    obtain ⟨G2, s2, t2, h2, r2⟩ := freeze_lst t1 h1
    have ev : v = .ref p := r1
    rw [ev]
    exact q (.ref p) (.lst ds) G2 H1 I2 (s1.trans s2) t2 h2 r2 pp
/-- for i in range(n), range(n, m) -/
theorem vi_range1 (hm : X.mg "range" = none) (h : PV X I a δ (.int n)) (h1 : n < 1000000) (h2 : -1000000 < n) (hg : Gl X "range" := by rfl) (hst : starEach [a] X.env = [(false, eval a X.env)] := by rfl) (hpl : (backTo pos (starEach [] X.env)).any (·.1) = false := by rfl) : PVI X I tg (.Call (.Name "range" p) [a] [] pos) δ ((List.range n.toNat).map fun i : Nat => D.int i) := fun W R P pp =>
  ei_range1 hm (h W R _ ⟨n, rfl, h1, h2, by
    have e : DL.intsFrom 0 n.toNat = (List.range n.toNat).map fun i : Nat => D.int i := by unfold DL.intsFrom; simp
    rw [e]; exact pp⟩) hg hst hpl
theorem vi_range2 (hm : X.mg "range" = none) (h : PV X I a δ (.int n)) (h' : PV X I b δ (.int m)) (h1 : n < 1000000 ∧ -1000000 < n ∧ m < 1000000 ∧ -1000000 < m) (hg : Gl X "range" := by rfl) (hst : starEach [a, b] X.env = [(false, eval a X.env), (false, eval b X.env)] := by rfl) (hst2 : starEach [b] X.env = [(false, eval b X.env)] := by rfl) (hpl : (backTo pos (starEach [b] X.env)).any (·.1) = false := by rfl) : PVI X I tg (.Call (.Name "range" p) [a, b] [] pos) δ ((List.range (m - n).toNat).map fun i : Nat => D.int (n + i)) := fun W R P pp =>
  ei_range2 hm (h W R _ (h' W R _ ⟨n, m, rfl, rfl, h1, pp⟩)) hg hst hst2 hpl
theorem pv_neg (h : PV X I a δ (.int n)) : PV X I (.UnaryOp .USub a pos) δ (.int (-n)) := pv_un un_neg h fun P pp G H v Q s hI r q => ⟨n, r, q (.int (-n)) (.int (-n)) G H I (Same.refl G) s hI rfl pp⟩
theorem enumD_map {α : Type} (f : α → D) (xs : List α) : enumD (xs.map f) = xs.zipIdx.map fun p => .tup [.int p.2, f p.1] := by
  unfold enumD
  rw [List.zipIdx_map, List.map_map]; rfl
theorem mem_zipIdx {α : Type} {xs : List α} {x : α} {i : Nat} (h : (x, i) ∈ xs.zipIdx) : xs[i]? = some x := List.mem_zipIdx_iff_getElem?.mp h
/-- ints, by their kinds -/
theorem atI_n {α : Type} {xs : List α} {j : Nat} {x : α} (h : xs[j]? = some x) : atI xs (j : Int) = some x := by
  have hl := (List.getElem?_eq_some_iff.mp h).1
  unfold atI ixN
  rw [if_pos (by omega), if_pos (by omega)]
  simpa using h
theorem atI_m {α : Type} {xs : List α} {f : α → D} {j : Nat} {x : α} (h : xs[j]? = some x) : atI (xs.map f) (j : Int) = some (f x) := atI_n (by rw [List.getElem?_map, h]; rfl)
theorem findSome_hit {α β : Type} {f : α → Option β} {p r : List α} {x : α} {b : β} (h : ∀ y ∈ p, f y = none) (hx : f x = some b) : (p ++ x :: r).findSome? f = some b := by
  rw [List.findSome?_append, List.findSome?_eq_none_iff.mpr h, List.findSome?_cons, hx]; rfl
end
theorem _root_.L2.Room.u1 {k : Nat} {A : Around} (r : Room k A) : A.units + 1 < cLine := by have := r.un; omega
theorem _root_.L2.Room.u65 {k : Nat} {A : Around} (r : Room k A) : A.units + 65 < cLine := by have := r.un; omega
theorem nodup_key {α : Type} {k : α → Str} {xs : List α} (h : (xs.map k).Nodup) : (xs.map fun x => (Sum.inr (k x) : Key)).Nodup :=
  List.pairwise_map.mpr ((List.pairwise_map.mp h).imp fun hne e => hne (Sum.inr.inj e))
/-! ### sorted by names -/
def sortW {α : Type} (ws : List (Str × α)) : List (Str × α) := ws.mergeSort fun a b => leS a.1 b.1
theorem sortW_perm {α : Type} (ws : List (Str × α)) : (sortW ws).Perm ws := List.mergeSort_perm ws _
theorem sortW_pw {α : Type} (ws : List (Str × α)) : (sortW ws).Pairwise (fun a b => leS a.1 b.1 = true) := List.pairwise_mergeSort (fun a b c => leS_tr a.1 b.1 c.1) (fun a b => leS_total a.1 b.1) ws
theorem sortW_names {α : Type} (ws : List (Str × α)) : (sortW ws).map (·.1) = sortS (ws.map (·.1)) :=
  sort_uniq (List.pairwise_map.mpr (sortW_pw ws)) ((sortW_perm ws).map _)
theorem sortW_nd {α : Type} {ws : List (Str × α)} (h : (ws.map (·.1)).Nodup) : ((sortW ws).map (·.1)).Nodup := ((sortW_perm ws).map (·.1)).nodup_iff.mpr h
theorem nd_inj {α : Type} : ∀ {ws : List (Str × α)}, (ws.map (·.1)).Nodup → ∀ {a b : Str × α}, a ∈ ws → b ∈ ws → a.1 = b.1 → a = b
  | [], _, _, _, h, _, _ => nomatch h
  | w :: ws, nd, a, b, ha, hb, e => by
    rw [List.map_cons] at nd
    obtain ⟨n1, n2⟩ := List.nodup_cons.mp nd
    rcases List.mem_cons.mp ha with e1 | ha1
    · rcases List.mem_cons.mp hb with e2 | hb1
      · rw [e1, e2]
      · exact absurd (List.mem_map.mpr ⟨b, hb1, by rw [← e, e1]⟩) n1
    · rcases List.mem_cons.mp hb with e2 | hb1
      · exact absurd (List.mem_map.mpr ⟨a, ha1, by rw [e, e2]⟩) n1
      · exact nd_inj n2 ha1 hb1 e
theorem sortW_uniq {α : Type} {ws vs : List (Str × α)} (nd : (ws.map (·.1)).Nodup) (h1 : vs.Pairwise (fun a b => leS a.1 b.1 = true)) (h2 : vs.Perm ws) : vs = sortW ws :=
  List.Perm.eq_of_pairwise (fun a b ha hb k l => nd_inj nd (h2.mem_iff.mp ha) ((sortW_perm ws).mem_iff.mp hb) (leS_anti k l)) h1 (sortW_pw ws) (h2.trans (sortW_perm ws).symm)
theorem sortW_map {α β : Type} (f : α → β) {ws : List (Str × α)} (nd : (ws.map (·.1)).Nodup) : sortW (ws.map fun p => (p.1, f p.2)) = (sortW ws).map fun p => (p.1, f p.2) := by
  refine (sortW_uniq ?_ ?_ ((sortW_perm ws).map _)).symm
  · rw [List.map_map]; exact nd
  · exact List.pairwise_map.mpr (sortW_pw ws)
theorem sortW_congr {α : Type} {ws vs : List (Str × α)} (nd : (vs.map (·.1)).Nodup) (h : ws.Perm vs) : sortW ws = sortW vs := sortW_uniq nd (sortW_pw ws) ((sortW_perm ws).trans h)
theorem sortW_idem {α : Type} {ws : List (Str × α)} (nd : (ws.map (·.1)).Nodup) : sortW (sortW ws) = sortW ws := sortW_congr nd (sortW_perm ws)
end DL
set_option Elab.async false
set_option linter.all false
set_option maxRecDepth 100000
set_option maxHeartbeats 4000000
/-! tuple(dict) -/
namespace L2
open PySem PySem.Spec PyProof.Rows
section
variable {prog : Program} {w : World} {A : Around} {E : Value → Shared → Prop} {s : Shared} {T : String} {r d : Addr} {n : Nat} {P : Nat → Value → Prop} {OK : Heap → Prop}
theorem collect_src {Q : List Value → Shared → Prop} (K : PySem.W.KdlSrc prog w T r d n P OK) (hh : A.handled = none) (hok : OK s.heap) (hn : n ≤ sizeLine)
    (hQ : ∀ (h' : Heap) (tk : Nat) (acc : Array Value), (∀ b o, s.heap.get? b = some o → h'.get? b = some o) → ItemsOf P acc n → Q acc.toList { s with heap := h', toks := tk }) :
    wpAny (model prog w) A (collect (.ref r)) Q E s := by
  have hlt := K.there _ hok
  unfold collect
  refine wpAny_bind (wpAny_runValue (codeAny_builtin F.entry_proto_collect ?_))
  rw [Around.under_plainId F.plain_proto_collect _]
  show wpAny _ A.in1 (newList [] >>= fun l => again (.builtin "list.__iadd__" ⟨[l, .ref r], []⟩)) _ _ s
  refine wpAny_bind (wpAny_newObj_type ?_)
  refine wpAny_pure ⟨plainId_quiet F.plain_list_iadd _, codeAny_builtin F.entry_list_iadd ?_⟩
  rw [Around.under_plainId F.plain_list_iadd _]
  show wpAny _ A.in1 (Builtin.List.listExtendWith (.ref s.heap.objs.size) (.ref r) (.ref s.heap.objs.size)) _ _ _
  have hS : (s.heap.push { cls := .type "list", data := .seq ([] : List Value).toArray }).get? s.heap.objs.size = some { cls := .type "list", data := .seq #[] 0 } := Heap.get?_push_size _ rfl
  refine wpAny_mono (PySem.W.kdl_extend (A := A) (R := fun rr s' => rr = .ok (.ret (.ref s.heap.objs.size)) ∧ ∃ (h' : Heap) (tk : Nat) (acc : Array Value) (c' : Nat), s' = { s with heap := h', toks := tk } ∧
      (∀ b o, s.heap.get? b = some o → h'.get? b = some o) ∧ h'.get? s.heap.objs.size = some { cls := .type "list", dict := none, data := .seq acc c', slots := #[] } ∧ ItemsOf P acc n)
    (s := { s with heap := s.heap.push { cls := .type "list", data := .seq ([] : List Value).toArray } }) K hh (K.keep _ _ hok fun b _ o e => Heap.get?_push_of_some _ e) s.heap.objs.size (Nat.ne_of_gt hlt.1) (Nat.ne_of_gt hlt.2) (.ref s.heap.objs.size) 0 hS
    (fun h' tk acc c' hk e hi => ⟨rfl, h', tk, acc, c', rfl, fun b o q => hk b o (Nat.ne_of_lt (Heap.lt_size q)) (Heap.get?_push_of_some _ q), e, hi⟩) hn) (fun fin s' h => ?_) (fun e s' h => ?_)
  · cases fin with
    | done f =>
      obtain ⟨e, h', tk, acc, c', rfl, hk, hS', hi⟩ := h
      cases e
      show wpAny _ A (load s.heap.objs.size >>= _) _ _ _
      exact wpAny_bind (wpAny_load hS' (wpAny_pure (hQ h' tk acc hk hi)))
    | again c' =>
      refine ⟨h.1, codeAny_mono h.2 fun rr s'' hr' => ?_⟩
      obtain ⟨rfl, h', tk, acc, c', rfl, hk, hS', hi⟩ := hr'
      show wpAny _ A (load s.heap.objs.size >>= _) _ _ _
      exact wpAny_bind (wpAny_load hS' (wpAny_pure (hQ h' tk acc hk hi)))
  · exact absurd h.1 (by simp)
theorem code_tuple_new_src {Q₁ : Value → Shared → Prop} (K : PySem.W.KdlSrc prog w T r d n P OK) (hT : (T == "tuple") = false) (hh : A.handled = none) (hok : OK s.heap) (hn : n ≤ sizeLine)
    (h : ∀ (h' : Heap) (tk : Nat) (acc : Array Value), (∀ b o, s.heap.get? b = some o → h'.get? b = some o) → ItemsOf P acc n →
      Q₁ (.ref h'.objs.size) { s with heap := h'.push { cls := .type "tuple", data := .seq acc }, toks := tk }) :
    codeAny (model prog w) A (.call (.builtin "tuple.__new__") ⟨[.type "tuple", .ref r], []⟩) (wants Q₁ E) s := by
  refine codeAny_of_tree ?_
  show wpAny _ A.in1 (do checkBuiltinCall "tuple.__new__" ⟨[.type "tuple", .ref r], []⟩; again (.builtin "tuple.__new__" ⟨[.type "tuple", .ref r], []⟩)) _ _ s
  refine wpAny_bind (wpAny_of_eq (F.newCall_tuple_1 _) (wpAny_pure ⟨plainId_quiet F.plain_tuple_new _, codeAny_builtin F.entry_tuple_new ?_⟩))
  rw [Around.under_plainId F.plain_tuple_new _]
  have hsub := sub_tuple_self
  have hinit := init_tuple_lookup
  have hmh := madeHere_tuple
  have hTI : s.TypeIs (.ref r) T := K.type s hok
  have hh1 : A.in1.handled = none := hh
  have hne : (Value.type T == Value.type "tuple") = false := K.notTuple
  wp_walk using wpAny_typeOf hTI, collect_src (A := A.in1) K hh1 hok hn
  intro h' tk acc hk hacc
  show wpAny _ _ (Builtin.Tuple.tupleExact acc.toList.toArray >>= fun v => ret v) _ _ _
  unfold Builtin.Tuple.tupleExact
  refine wpAny_bind (wpAny_newObj_type ?_ (by show acc.toList.toArray.size ≤ sizeLine; simp only [Array.toArray_toList]; rw [hacc.1]; exact hn))
  refine wpAny_pure ?_
  have e : acc.toList.toArray = acc := by simp
  rw [e]
  exact h h' tk acc hk hacc
theorem call_tuple_src {Q : Value → Shared → Prop} (K : PySem.W.KdlSrc prog w T r d n P OK) (hT : (T == "tuple") = false) (hh : A.handled = none) (hok : OK s.heap) (hn : n ≤ sizeLine)
    (hQ : ∀ (h' : Heap) (tk : Nat) (acc : Array Value), (∀ b o, s.heap.get? b = some o → h'.get? b = some o) → ItemsOf P acc n →
      Q (.ref h'.objs.size) { s with heap := h'.push { cls := .type "tuple", data := .seq acc }, toks := tk }) :
    wpAny (model prog w) A (call (.type "tuple") [.ref r]) Q E s := by
  refine callType_codes (Q₁ := fun obj s₁ => s₁.TypeIs obj "tuple" ∧ Q obj s₁) F.called_tuple (F.typeCall_tuple_1 _) F.entry_object_init
    (code_tuple_new_src (A := A.in1) K hT hh hok hn fun h' tk acc hk hacc => ⟨⟨_, Heap.get?_push_size _ rfl, rfl⟩, hQ h' tk acc hk hacc⟩) fun obj s₁ h₁ => ?_
  exact ⟨h₁.1, F.args_object_init_2 obj _, object_init_meets F.called_tuple.init.lookup F.called_tuple.made (by decide) prog w A.in1 _ s₁ ⟨h₁.1, rfl, h₁.2⟩⟩
end
/-- tuple(d): its keys -/
theorem call_tupleD {X : Cx} (hcalm : X.calm = true) : CallR X (.type "tuple") (fun xs H Q => ∃ (a : Addr) (kvs : List (Key × V)), xs = [.ref a] ∧ Rd H a (.dK kvs) ∧ ∀ p ob, H p = none → ob.dict = none → Q (.ref p) (upd H p (.frz ob (.tup (kvs.map fun kv => kV kv.1))))) := by
  intro pins s σ H xs us Q I r q
  obtain ⟨a, kvs, ex, hd, q⟩ := q
  subst ex
  obtain ⟨u, eu, rx⟩ := vals1 r
  subst eu
  cases rx
  obtain ⟨z, lo, vs, rel, dd⟩ := dk_rd I.hok hd
  obtain ⟨ep, hat⟩ := dd.dictAt
  have ek : (kvs.map fun kv => kV kv.1) = vs.map fun p => kV p.1 := by
    have e := congrArg (List.map kV) rel.keys
    rw [List.map_map, List.map_map] at e
    exact e
  refine call_tuple_src (PySem.W.kdl_dict (knd := mixKind X.prog X.w) (kvs := vs) (ep := ep) lo) (by decide) (I.ok.hd hcalm) hat (by rw [← rel.length]; exact z) fun h' tk acc hk hacc => ?_
  have hv : Vals (vs.map fun p => kV p.1) acc.toList := keys_at (by rw [Array.length_toList]; exact hacc.1) fun j v e => hacc.2 j v (by rw [← Array.getElem?_toList]; exact e)
  have I1 : Inv X pins σ H { s with heap := h', toks := tk } := I.kept (t' := tk) hk
  refine ⟨.ref h'.objs.size, upd H h'.objs.size (.frz { cls := .type "tuple", data := .seq acc } (.tup (kvs.map fun kv => kV kv.1))), I1.laid (t' := tk) (fun b o e => Heap.get?_push_of_some _ e) (Nat.le_refl _)
    (show ObjOk X.prog X.w _ _ _ (.frz { cls := .type "tuple", data := .seq acc } (.tup (kvs.map fun kv => kV kv.1))) from ⟨Heap.get?_push_size _ rfl, by rw [List.length_map]; exact z, acc.toList, by rw [ek]; exact hv, ⟨_, by rw [Array.toArray_toList]; exact Heap.get?_push_size _ rfl, rfl, _, by rw [Array.toArray_toList]⟩⟩), rfl, q _ _ (I1.hok.fresh (Nat.le_refl _)) rfl⟩
end L2
namespace DL
open PySem PySem.Spec PyProof.Rows L2
theorem pn_tupD {K : PySem.W.Frag} {I : Iv K} {kds : List (Key × D)} : PN K I (fun xs H Q => ∃ (a : Addr) (kvs : List (Key × V)), xs = [.ref a] ∧ Rd H a (.dK kvs) ∧ ∀ p ob, H p = none → ob.dict = none → Q (.ref p) (upd H p (.frz ob (.tup (kvs.map fun kv => kV kv.1))))) [dicD kds] (.tub (kds.map fun p => keyV p.1)) := fun P pp G H vs Q s hI r q => by
  obtain ⟨v, r1, rfl, rd, er⟩ := r
  rw [show r1 = [] from er]
  obtain ⟨a, od, kvs, rfl, e1, kr⟩ := rep_dicD.mp rd
  refine ⟨a, kvs, rfl, .inr ⟨od, s _ _ e1⟩, fun p ob hq hob => ?_⟩
  have hg : G p = none := s.free hq
  have rr : Reps K (upd G p (.frz ob (.tup (kvs.map fun kv => kV kv.1)))) (kds.map fun p => keyV p.1) (kvs.map fun kv => kV kv.1) := by
    have e := kr.keys
    have e2 : (kvs.map fun kv => kV kv.1) = (kds.map (·.1)).map kV := by rw [← e, List.map_map]; rfl
    have e3 : (kds.map fun p => keyV p.1) = (kds.map (·.1)).map keyV := by rw [List.map_map]; rfl
    rw [e2, e3]
    generalize kds.map (·.1) = ks
    generalize upd G p _ = G'
    induction ks with
    | nil => exact .nil
    | cons k ks ih => exact .cons (rep_keyV k) ih
  exact q (.ref p) (.tub (kds.map fun p => keyV p.1)) (upd G p (.frz ob (.tup _))) _ I (Evl.Ex.new hg) (same_upd2 s) (hI.keep hq s) ⟨p, ob, _, rfl, upd_same, hob, rr⟩ pp
theorem pv_tupleD {X : Cx} {I : Iv X.K} {e : Expr} {δ : DEnv} {pos p : Pos} {α : Type} {xs : List α} {k : α → Str} {v : α → D} (hm : X.mg "tuple" = none) (h : PV X I e δ (dicT xs k v)) (hc : X.calm = true := by rfl) (hg : Gl X "tuple" := by rfl)
    (he : starEach [e] X.env = (false, eval e X.env) :: starEach [] X.env := by rfl) (hpl : (backTo pos (starEach [] X.env)).any (·.1) = false := by rfl) : PV X I (.Call (.Name "tuple" p) [e] [] pos) δ (.tub (xs.map fun x => D.str (k x))) := by
  rw [← keys_dicT xs k v]
  exact pv_ct (call_tupleD hc) hm (va_cons h va_nil he) pn_tupD (by decide +kernel) hg (by decide) (by decide) he hpl
/-- a tuple whose object is known is a tuple -/
theorem rep_tub {K : PySem.W.Frag} {G : Hp} {ds : List D} {v : V} (r : Rep K G (.tub ds) v) : Rep K G (.tup ds) v := by
  obtain ⟨a, ob, vs, h1, h2, h3, h4⟩ := r
  exact ⟨a, vs, h1, .inl (.inr ⟨ob, h2⟩), h4⟩
theorem pv_tub {X : Cx} {I : Iv X.K} {e : Expr} {δ : DEnv} {ds : List D} (h : PV X I e δ (.tub ds)) : PV X I e δ (.tup ds) := fun W R P p σ G H Q hE s hI qx q =>
  h W R (fun d J => d = .tub ds ∧ J = I) ⟨rfl, rfl⟩ σ G H Q hE s hI qx fun v d G1 H1 I1 s1 t1 h1 r1 ⟨ed, ei⟩ => by
    subst ed ei
    exact q v (.tup ds) G1 H1 _ s1 t1 h1 (rep_tub r1) p
end DL
set_option Elab.async false
set_option linter.all false
set_option maxRecDepth 100000
set_option maxHeartbeats 4000000
namespace GQ
open PySem PySem.SeqAt
open AutoSeq1 (wpAny_loadPart')
open MeetsSeq MeetsSeq2 MeetsSeq3 SeqRoads2
section
variable {prog : Program} {w : World} {A : Around} {R : Result → Shared → Prop}
theorem tuple_eqB (l b : Addr) (items items2 : Array Value) (n n2 : Nat) (dd dd2 : Option Addr) (sl sl2 : Array (Option Value)) (J : Shared → Prop) (e : Nat → Bool)
    (turn : ∀ i (h1 : i < items.size) (h2 : i < items2.size) s, J s → wpAny (model prog w) A.in1 (eqBool items[i] items2[i]) (fun r s' => r = e i ∧ J s') (fun e s' => R (.error e) s') s)
    (fin : ∀ s, J s → R (.ok (.ret (.bool ((items.size == items2.size) && (List.range (min items.size items2.size)).all e)))) s) {s : Shared} (hl1 : s.heap.get? l = some { cls := .type "tuple", dict := dd, data := .seq items n, slots := sl }) (hb1 : s.heap.get? b = some { cls := .type "tuple", dict := dd2, data := .seq items2 n2, slots := sl2 }) (h : J s) :
    wpAny (model prog w) A.in1 (Builtin.«tuple.__eq__» ⟨[.ref l, .ref b], []⟩) (FinOf prog w A R) (fun e s' => R (.error e) s') s := by
  have f2 := AutoSeq1.sub_tuple_tuple
  have hZ : (items.toList.zip items2.toList).length = min items.size items2.size := by simp
  have h0 := h
  obtain ⟨hp, g, d, tk, os⟩ := s
  wp_walk using wpAny_loadPart' hl1, wpAny_loadPart' hb1, wpAny_forIn_list _ (fun rest b s' => b.1 = none ∧ ∃ i, rest = (items.toList.zip items2.toList).drop i ∧ i ≤ min items.size items2.size ∧ (∀ j, j < i → e j = true) ∧ J s') _
  case turn =>
    rintro ⟨y, x⟩ rest b s' ⟨hb', i, hz, hi, he, hI⟩
    have hlt : i < (items.toList.zip items2.toList).length := by
      rcases Nat.lt_or_ge i (items.toList.zip items2.toList).length with h' | h'
      · exact h'
      · rw [List.drop_of_length_le h'] at hz; cases hz
    have h1 : i < items.size := by omega
    have h2 : i < items2.size := by omega
    rw [List.drop_eq_getElem_cons hlt] at hz
    injection hz with hyx hrest
    have hy : y = items[i] := by have := congrArg Prod.fst hyx; simpa using this
    have hx : x = items2[i] := by have := congrArg Prod.snd hyx; simpa using this
    subst hy hx
    refine wpAny_bind (wpAny_mono (turn i h1 h2 s' hI) (fun r s2 q2 => ?_) fun _ _ x => x)
    obtain ⟨hr, q2⟩ := q2
    subst hr
    cases q : e i with
    | true =>
      wp_walk
      refine ⟨rfl, i + 1, hrest, by omega, fun j hj => ?_, q2⟩
      rcases Nat.lt_or_ge j i with h' | h'
      · exact he j h'
      · have : j = i := by omega
        subst this; exact q
    | false =>
      wp_walk
      have ef : (List.range (min items.size items2.size)).all e = false := by
        rw [List.all_eq_false]
        exact ⟨i, List.mem_range.mpr (by omega), by rw [q]; simp⟩
      have hR := fin s2 q2
      rw [ef, Bool.and_false] at hR
      exact hR
  case fin =>
    rintro ⟨b1, b2⟩ s' ⟨hb', i, hz, hi, he, hI⟩
    simp only at hb'
    subst hb'
    have hge : min items.size items2.size ≤ i := by
      rcases Nat.lt_or_ge i (items.toList.zip items2.toList).length with h' | h'
      · rw [List.drop_eq_getElem_cons h'] at hz; cases hz
      · omega
    have hi' : i = min items.size items2.size := by omega
    have hR := fin s' hI
    have et : (List.range (min items.size items2.size)).all e = true := by
      rw [List.all_eq_true]
      exact fun j hj => he j (by rw [hi']; exact List.mem_range.mp hj)
    rw [et, Bool.and_true] at hR
    wp_walk
    simpa [Builtin.Tuple.tupleCompareSizes] using hR
  case h =>
    exact ⟨rfl, 0, rfl, Nat.zero_le _, fun j hj => absurd hj (by omega), h0⟩
end
end GQ
set_option Elab.async false
set_option linter.all false
set_option maxRecDepth 100000
set_option maxHeartbeats 4000000
namespace DL
open PySem PySem.Spec PyProof.Rows L2
/-- what == answers, by data, somewhere within X; it only makes objects -/
structure EqB (X : Cx) (n : Nat) (E : D → D → Bool → Prop) : Prop where
  run : ∀ (A : Around) (pins : List (Addr × Obj)) (s : Shared) (σ : L2.St) (G H : Hp) (x y : V) (u v : Value) (dx dy : D) (b : Bool), L2.Sub X n A → Inv X pins σ H s → RelV x u → RelV y v → Same G H → Rep X.K G dx x → Rep X.K G dy y → E dx dy b →
    wpAny (model X.prog X.w) A (eqBool u v) (fun r s' => r = b ∧ ∃ H', Inv X pins σ H' s' ∧ Ext H H') X.xe s
  same : ∀ (pins : List (Addr × Obj)) (s : Shared) (σ : L2.St) (G H : Hp) (x : V) (dx dy : D) (b : Bool), Inv X pins σ H s → Same G H → Rep X.K G dx x → Rep X.K G dy x → E dx dy b → b = true
theorem EqB.mono {X : Cx} {n m : Nat} {E : D → D → Bool → Prop} (h : EqB X n E) (hn : n ≤ m) : EqB X m E := ⟨fun A pins s σ G H x y u v dx dy b sb => h.run A pins s σ G H x y u v dx dy b (sb.mono hn), h.same⟩
/-- plain data in slots -/
theorem flat_slt {K : PySem.W.Frag} {G : Hp} : ∀ {fs : List D} {vs us : List V}, Reps K G fs vs → flatDs fs = some us → vs = us := Reps.flat
theorem relV_inj {a b : V} {u : Value} (ha : flatV a = true) (hb : flatV b = true) (h1 : RelV a u) (h2 : RelV b u) : a = b := by
  cases a <;> (first | (cases ha; done) | skip) <;> cases b <;> (first | (cases hb; done) | skip)
  all_goals first
    | rfl
    | (have e1 : u = _ := h1; have e2 : u = _ := h2; rw [e1] at e2; cases e2; first | rfl | done)
    | (have e1 : u = _ := h1; obtain ⟨t, e2⟩ := h2; rw [e1] at e2; cases e2; done)
    | (obtain ⟨t, e1⟩ := h1; have e2 : u = _ := h2; rw [e1] at e2; cases e2; done)
    | (obtain ⟨t, e1⟩ := h1; obtain ⟨t', e2⟩ := h2; rw [e1] at e2; cases e2; first | rfl | done)
theorem flatDs_flat : ∀ {ds : List D} {vs : List V}, flatDs ds = some vs → ∀ v ∈ vs, ∃ d ∈ ds, flatD d = some v
  | [], vs, h, v, hv => by cases h; cases hv
  | d :: ds, vs, h, v, hv => by
    unfold flatDs at h
    cases e1 : flatD d with
    | none => rw [e1] at h; cases h
    | some w =>
      cases e2 : flatDs ds with
      | none => rw [e1, e2] at h; cases h
      | some ws =>
        rw [e1, e2] at h
        cases h
        rcases List.mem_cons.mp hv with rfl | hv
        · exact ⟨d, List.mem_cons_self .., e1⟩
        · obtain ⟨d', h1, h2⟩ := flatDs_flat e2 v hv
          exact ⟨d', List.mem_cons_of_mem _ h1, h2⟩
def allPl : List D → Bool
  | [] => true
  | .str _ :: ds => allPl ds
  | .int _ :: ds => allPl ds
  | .bl _ :: ds => allPl ds
  | .non :: ds => allPl ds
  | _ => false
theorem allPl_vs : ∀ {ds : List D}, allPl ds = true → ∃ vs, flatDs ds = some vs ∧ ∀ v ∈ vs, flatV v = true
  | [], _ => ⟨[], rfl, fun _ h => nomatch h⟩
  | d :: ds, h => by
    have key : ∀ v, flatD d = some v → flatV v = true → allPl ds = true → ∃ vs, flatDs (d :: ds) = some vs ∧ ∀ v ∈ vs, flatV v = true := fun v e f q => by
      obtain ⟨vs, e2, k⟩ := allPl_vs q
      refine ⟨v :: vs, by unfold flatDs; rw [e, e2], fun w hw => ?_⟩
      rcases List.mem_cons.mp hw with rfl | hw
      · exact f
      · exact k w hw
    cases d <;> first | cases h | exact key _ rfl rfl h
theorem allPl_inj {K : PySem.W.Frag} {G : Hp} : ∀ {ds es : List D} {vs : List V}, allPl ds = true → allPl es = true → Reps K G ds vs → Reps K G es vs → ds = es
  | [], [], _, _, _, _, _ => rfl
  | [], e :: es, _, _, _, h, ⟨v, r, e2, _, _⟩ => by rw [show _ = [] from h] at e2; cases e2
  | d :: ds, [], _, _, _, ⟨v, r, e2, _, _⟩, h => by rw [show _ = [] from h] at e2; cases e2
  | d :: ds, e :: es, _, h1, h2, ⟨v, r, e1, r1, rr1⟩, ⟨v', r', e2, r2, rr2⟩ => by
    rw [e1] at e2
    cases e2
    have hd : d = e ∧ allPl ds = true ∧ allPl es = true := by
      cases d <;> cases e <;> first | cases h1 | cases h2 | skip
      all_goals (refine ⟨?_, h1, h2⟩; first | rfl | (have q := (show v = _ from r1).symm.trans (show v = _ from r2); cases q; first | rfl | done))
    rw [hd.1, allPl_inj hd.2.1 hd.2.2 rr1 rr2]
/-- instances with slots of the class at C, by its own == -/
theorem EqB.own {X : Cx} {n : Nat} {C g : Addr} {S : Spec X.K} (hs : PySem.W.findIn X.K (.ref C) "__eq__" = some (some (.ref g))) (hf : PySem.W.isFn X.K (.ref g) = true) (hn : PySem.W.notFirst X.K C (.ref C) = true)
    (F : FnR X.prog X.w X.K X.mg X.base (L2.CX X.prog X.w) n g (spD X.K S)) :
    EqB X n (fun dx dy b => ∃ fs gs, dx = .slo C fs ∧ dy = .slo C gs ∧ allPl fs = true ∧ allPl gs = true ∧ fs.length = gs.length ∧ (fs = gs → b = true) ∧ ∀ P : D → Iv X.K → Prop, P (.bl b) (iEmp X.K) → S (iEmp X.K) [dx, dy] P F0) := by
  have hsame : ∀ (pins : List (Addr × Obj)) (s : Shared) (σ : L2.St) (G H : Hp) (x : V) (fs gs : List D), Inv X pins σ H s → Same G H → Rep X.K G (.slo C fs) x → Rep X.K G (.slo C gs) x → allPl fs = true → allPl gs = true → fs.length = gs.length → fs = gs := by
    intro pins s σ G H x fs gs J sm ⟨a, d1, vs, e1, t1, r1⟩ ⟨a', d2, us, e2, t2, r2⟩ pf pg hl
    rw [e1] at e2
    cases e2
    obtain ⟨sl, od, q1, i1, _⟩ := SlX.slt_inst J (slt_mono sm t1)
    obtain ⟨sl', od', q2, i2, _⟩ := SlX.slt_inst J (slt_mono sm t2)
    obtain ⟨h1, _, _, _⟩ := i1
    obtain ⟨h2, _, _, _⟩ := i2
    rw [h1] at h2
    have esl : sl = sl' := by
      have := Option.some.inj h2
      exact congrArg (fun o : Obj => o.slots) this
    subst esl
    obtain ⟨ws1, f1, p1⟩ := allPl_vs pf
    obtain ⟨ws2, f2, p2⟩ := allPl_vs pg
    have ev1 := r1.flat f1
    have ev2 := r2.flat f2
    have hg : ∀ {ws : List V}, SlX.SlR (ws.map some) sl → ∀ i v, ws[i]? = some v → ∃ u, sl[i]? = some (some u) ∧ RelV v u := fun q i v hv => q i v (by rw [List.getElem?_map, hv]; rfl)
    have hl1 := r1.length
    have hl2 := r2.length
    rw [ev1] at q1 hl1 r1
    rw [ev2] at q2 hl2 r2
    have hws : ws1 = ws2 := List.ext_getElem? fun i => by
      cases a1 : ws1[i]? with
      | none =>
        have := List.getElem?_eq_none_iff.mp a1
        rw [List.getElem?_eq_none_iff.mpr (by omega)]
      | some v =>
        have hlt := (List.getElem?_eq_some_iff.mp a1).1
        have a2 : ws2[i]? = some (ws2[i]'(by omega)) := List.getElem?_eq_getElem (by omega)
        rw [a2]
        obtain ⟨u, e1, k1⟩ := hg q1 i v a1
        obtain ⟨u', e2, k2⟩ := hg q2 i _ a2
        rw [e1] at e2
        cases e2
        rw [relV_inj (p1 v (List.mem_of_getElem? a1)) (p2 _ (List.mem_of_getElem? a2)) k1 k2]
    subst hws
    exact allPl_inj pf pg r1 r2
  refine ⟨?_, ?_⟩
  · intro A pins s σ G H x y u v dx dy b sb J rx ry sm r1 r2 ⟨fs, gs, e1, e2, pf, pg, hl, hb, hS⟩
    subst e1 e2
    obtain ⟨a, d1, vs, ea, t1, q1⟩ := id r1
    obtain ⟨c, d2, us, ec, t2, q2⟩ := id r2
    subst ea ec
    cases (show u = Value.ref a from rx)
    cases (show v = Value.ref c from ry)
    by_cases hac : a = c
    · subst hac
      have hbt := hb (hsame pins s σ G H _ fs gs J sm r1 r2 pf pg hl)
      subst hbt
      exact SeqAt.EqAt.same (A := A) (s := s) (.ref a) X.prog X.w X.xe _ ⟨rfl, H, J, Ext.rfl'⟩
    · refine GQ.eqBool_refG hac ?_
      obtain ⟨sl, od, _, O1, _⟩ := SlX.slt_inst J (slt_mono sm t1)
      obtain ⟨sl', od', _, O2, _⟩ := SlX.slt_inst J (slt_mono sm t2)
      obtain ⟨m, hF⟩ := J.fr
      refine PySem.W.cmp_K (op := .Eq) (tb := .ref C) sb.room.units0 hF J.ok.mod.kin O1 O2.type hn hs hf ?_
      have e0 : Env0 X.prog X.w X.K X.mg X.base A X.stack s H := by
        have e := J.env0
        exact ⟨by rw [sb.fr]; exact e.frames, e.mod, e.bs, e.bsz, e.funs, e.frf, e.hok, e.bare⟩
      have hsp : spD X.K S [.ref a, .ref c] H (fun v H' => v = .bl b ∧ Ext H H') (fun _ _ _ => False) :=
        spD_of (I := iEmp X.K) (G := H) (ds := [.slo C fs, .slo C gs]) (P := fun d _ => d = .bl b) (Same.refl H) Hd.emp (.cons (r1.mono sm) (.cons (r2.mono sm) .nil)) (hS (fun d _ => d = .bl b) rfl) fun v d G' H' I' s1 s2 h1 r e => by
          subst e
          exact ⟨r, fun p o hp => (s1.trans s2) p o hp⟩
      refine wpAny_call (codeAny_mono (F A X.stack s H [.ref a, .ref c] [.ref a, .ref c] _ _ sb.room e0 (.cons rfl (.cons rfl .nil)) hsp) fun r s' hq => ?_)
      cases r with
      | error e => exact (cxF hq).elim
      | ok fl =>
        cases fl with
        | ret w =>
          obtain ⟨z, H', J', rz, ez, ex⟩ := J.after hq
          subst ez
          cases rz
          exact ⟨b, rfl, rfl, H', J', ex⟩
        | next => exact False.elim hq
        | brk => exact False.elim hq
        | cont => exact False.elim hq
  · intro pins s σ G H x dx dy b J sm r1 r2 ⟨fs, gs, e1, e2, pf, pg, hl, hb, _⟩
    subst e1 e2
    exact hb (hsame pins s σ G H x fs gs J sm r1 r2 pf pg hl)
/-- tuples, item by item -/
def ETup (E : D → D → Bool → Prop) (dx dy : D) (b : Bool) : Prop := ∃ (xs ys : List D) (e : Nat → Bool), dx = .tup xs ∧ dy = .tup ys ∧ (∀ i x y, xs[i]? = some x → ys[i]? = some y → E x y (e i)) ∧ b = ((xs.length == ys.length) && (List.range (min xs.length ys.length)).all e)
theorem EqB.tup {X : Cx} {n : Nat} {E : D → D → Bool → Prop} (h : EqB X n E) : EqB X (n + 1) (ETup E) := by
  have hsame : ∀ (pins : List (Addr × Obj)) (s : Shared) (σ : L2.St) (G H : Hp) (x : V) (dx dy : D) (b : Bool), Inv X pins σ H s → Same G H → Rep X.K G dx x → Rep X.K G dy x → ETup E dx dy b → b = true := by
    intro pins s σ G H x dx dy b J sm r1 r2 ⟨xs, ys, e, e1, e2, he, hb⟩
    subst e1 e2 hb
    obtain ⟨a, vs, ea, t1, q1⟩ := r1
    obtain ⟨a', us, ea', t2, q2⟩ := r2
    rw [ea] at ea'
    cases ea'
    have evs := J.tuple_inj (sqT_mono sm t1) (sqT_mono sm t2)
    subst evs
    have hl : xs.length = ys.length := by rw [← q1.length, ← q2.length]
    rw [Bool.and_eq_true, beq_iff_eq]
    refine ⟨hl, ?_⟩
    rw [List.all_eq_true]
    intro i hi
    have hi := List.mem_range.mp hi
    have h1 : xs[i]? = some (xs[i]'(by omega)) := List.getElem?_eq_getElem (by omega)
    have h2 : ys[i]? = some (ys[i]'(by omega)) := List.getElem?_eq_getElem (by omega)
    obtain ⟨v, k1, k2⟩ := q1.get h1
    obtain ⟨v', k3, k4⟩ := q2.get h2
    rw [k1] at k3
    cases k3
    exact h.same pins s σ G H v _ _ _ J sm k2 k4 (he i _ _ h1 h2)
  refine ⟨?_, hsame⟩
  intro A pins s σ G H x y u v dx dy b sb J rx ry sm r1 r2 hE
  obtain ⟨xs, ys, e, e1, e2, he, hb⟩ := id hE
  subst e1 e2
  obtain ⟨a, vs, ea, t1, q1⟩ := id r1
  obtain ⟨c, us, ec, t2, q2⟩ := id r2
  subst ea ec
  cases (show u = Value.ref a from rx)
  cases (show v = Value.ref c from ry)
  by_cases hac : a = c
  · subst hac
    have hbt := hsame pins s σ G H _ _ _ _ J sm r1 r2 hE
    rw [hbt]
    exact SeqAt.EqAt.same (A := A) (s := s) (.ref a) X.prog X.w X.xe _ ⟨rfl, H, J, Ext.rfl'⟩
  · refine GQ.eqBool_refG hac ?_
    obtain ⟨its, rv, ⟨⟨cls, dd, data, sl⟩, ho, hc, nn, hd⟩, _⟩ := J.tuple (sqT_mono sm t1)
    obtain ⟨its2, rv2, ⟨⟨cls2, dd2, data2, sl2⟩, ho2, hc2, nn2, hd2⟩, _⟩ := J.tuple (sqT_mono sm t2)
    simp only at hc hd hc2 hd2
    subst hc hd hc2 hd2
    have hn1 : its.toArray.size = xs.length := by rw [List.size_toArray, ← rv.length, q1.length]
    have hn2 : its2.toArray.size = ys.length := by rw [List.size_toArray, ← rv2.length, q2.length]
    refine wpAny_richCompare_same_room (op := .Eq) ⟨_, ho, rfl⟩ ⟨_, ho2, rfl⟩ F.slot_tuple_eq (GQ.call_here F.slot_tuple_eq ⟨_, ho, rfl⟩ F.entry_tuple_eq (F.args_tuple_eq_2 _ _) ?_) sb.room.units0
    refine GQ.tuple_eqB (R := wants (fun v s' => v ≠ .notImplemented ∧ ∃ r, v = .bool r ∧ r = b ∧ ∃ H', Inv X pins σ H' s' ∧ Ext H H') X.xe) a c its.toArray its2.toArray nn nn2 dd dd2 sl sl2 (fun s' => ∃ H', Inv X pins σ H' s' ∧ Ext H H') e ?_ ?_ ho ho2 ⟨H, J, Ext.rfl'⟩
    · rintro i h1 h2 s' ⟨H1, J1, ex1⟩
      have k1 : i < xs.length := by omega
      have k2 : i < ys.length := by omega
      obtain ⟨w1, g1, rw1⟩ := q1.get (List.getElem?_eq_getElem k1)
      obtain ⟨w2, g2, rw2⟩ := q2.get (List.getElem?_eq_getElem k2)
      obtain ⟨u1, gu1, ru1⟩ := rv.get g1
      obtain ⟨u2, gu2, ru2⟩ := rv2.get g2
      have m1 : its.toArray[i] = u1 := by
        have := (List.getElem?_eq_some_iff.mp gu1).2
        simpa using this
      have m2 : its2.toArray[i] = u2 := by
        have := (List.getElem?_eq_some_iff.mp gu2).2
        simpa using this
      rw [m1, m2]
      refine wpAny_mono (h.run A.in1 pins s' σ G H1 w1 w2 u1 u2 _ _ (e i) sb.in1 J1 ru1 ru2 (fun p o hp => ex1 p o (sm p o hp)) rw1 rw2 (he i _ _ (List.getElem?_eq_getElem k1) (List.getElem?_eq_getElem k2))) (fun r s2 q => ?_) fun _ _ x => x
      obtain ⟨hr, H2, J2, ex2⟩ := q
      exact ⟨hr, H2, J2, ex1.trans ex2⟩
    · rintro s' ⟨H', J', ex⟩
      exact ⟨(fun z => nomatch z), _, rfl, by rw [hb, hn1, hn2], H', J', ex⟩
end DL
set_option Elab.async false
set_option linter.all false
set_option maxRecDepth 100000
set_option maxHeartbeats 4000000
namespace DL
open PySem PySem.Calls PyProof.Rows PyProof.V PySem.Spec PySem.W
section
variable {prog : Program} {w : World} {K : Type} [DecidableEq K] {knd : KeyKind prog w K} {A : Around} {E : Value → Shared → Prop} {s : Shared}
inductive KHits {K : Type} [DecidableEq K] (prog : Program) (w : World) (A : Around) (E : Value → Shared → Prop) (J : Shared → Prop) (kb : List (K × Value)) : List (K × Value) → Bool → Prop
  | nil : KHits prog w A E J kb [] true
  | miss {k : K} {v : Value} {r : List (K × Value)} : valueAt kb k = none → KHits prog w A E J kb ((k, v) :: r) false
  | hit {k : K} {v y : Value} {r : List (K × Value)} {e b : Bool} : valueAt kb k = some y → (∀ s, J s → wpAny (model prog w) A (eqBool v y) (fun z s' => z = e ∧ J s') E s) → KHits prog w A E J kb r b → KHits prog w A E J kb ((k, v) :: r) (e && b)
theorem KHits.inv {J : Shared → Prop} {kb : List (K × Value)} {k : K} {v : Value} {r : List (K × Value)} {b : Bool} (h : KHits prog w A E J kb ((k, v) :: r) b) :
    (valueAt kb k = none ∧ b = false) ∨ ∃ y e b', valueAt kb k = some y ∧ (∀ s, J s → wpAny (model prog w) A (eqBool v y) (fun z s' => z = e ∧ J s') E s) ∧ KHits prog w A E J kb r b' ∧ b = (e && b') := by
  cases h with
  | miss hn => exact .inl ⟨hn, rfl⟩
  | hit hy he hr => exact .inr ⟨_, _, _, hy, he, hr, rfl⟩
theorem samePairsJ {nm : String} {a b : Addr} {ka kb : List (K × Value)} {r : Bool} {Q : Bool → Shared → Prop} (ha : (a == sysModules) = false) (hb : (b == sysModules) = false)
    (J : Shared → Prop) (j0 : J s) (st : ∀ s', J s' → s'.heap.get? a = s.heap.get? a ∧ s'.heap.get? b = s.heap.get? b)
    (da : s.heap.DictOf knd a ka) (db : s.heap.DictOf knd b kb) (hits : ka.length = kb.length → KHits prog w A E J kb ka r) (h : ∀ s', J s' → Q (ka.length == kb.length && r) s') :
    wpAny (model prog w) A (Builtin.Dict.samePairs nm a b) Q E s := by
  obtain ⟨oa, es, ep, hoa0, _, hda, hka, hpa, _⟩ := da
  obtain ⟨ob, es', ep', hob0, _, hdb, hkb, hpb, _⟩ := db
  have hoaJ : ∀ s', J s' → s'.heap.get? a = some oa := fun s' q => (st s' q).1.trans hoa0
  have hobJ : ∀ s', J s' → s'.heap.get? b = some ob := fun s' q => (st s' q).2.trans hob0
  have hoa := hoaJ s j0
  have hob := hobJ s j0
  have hla : ka.length = es.size := by rw [← hpa.length]; exact Array.length_toList
  have hlb : kb.length = es'.size := by rw [← hpb.length]; exact Array.length_toList
  have hfind : ∀ k, findBy knd.is es' k = valueAt kb k := fun k => by
    rw [← hpb.find k]
    clear hlb hpb hkb hdb hob hobJ hob0
    obtain ⟨l⟩ := es'
    simp [findBy]
  rw [hla, hlb] at h
  unfold Builtin.Dict.samePairs Builtin.Dict.showsAll
  rw [if_neg (show ¬ (a == sysModules) = true by rw [ha]; exact Bool.false_ne_true), if_neg (show ¬ (b == sysModules) = true by rw [hb]; exact Bool.false_ne_true)]
  refine wpAny_bind (wpAny_pure (wpAny_bind (wpAny_pure ?_)))
  refine wpAny_bind (wpAny_dictEntries hoa hda ?_)
  dsimp only
  refine wpAny_bind (wpAny_dictEntries hob hdb ?_)
  by_cases hsz : es.size = es'.size
  case neg =>
    rw [if_pos (by simpa using hsz)]
    have hbf : (es.size == es'.size) = false := by simpa using hsz
    rw [hbf, Bool.false_and] at h
    exact wpAny_bind (wpAny_rule (wpAny_pure (h s j0)))
  case pos =>
    have h' : ∀ s', J s' → Q r s' := fun s' q => by simpa [hsz] using h s' q
    have hits' := hits (by rw [hla, hlb]; exact hsz)
    rw [if_neg (by rw [hsz]; simp)]
    refine wpAny_bind (wpAny_dictEpoch hoa hda ?_)
    refine wpAny_bind ?_
    rw [Std.Legacy.Range.forIn_eq_forIn_range']
    simp only [Std.Legacy.Range.size, Nat.sub_zero, Nat.add_sub_cancel, Nat.div_one]
    refine wpAny_forIn_list _
      (fun rest q s' => J s' ∧ q = (none, ()) ∧ ∃ i, rest = List.range' i (es.size - i) ∧ i ≤ es.size ∧ KHits prog w A E J kb (ka.drop i) r)
      _ ?_ ?_ _ _ ⟨j0, rfl, 0, by simp, Nat.zero_le _, hits'⟩
    · rintro x rest q s' ⟨js, rfl, i, hr, hi, hpre⟩
      have hoa := hoaJ s' js
      have hob := hobJ s' js
      have hlt : i < es.size := by
        rcases Nat.lt_or_ge i es.size with h | h
        · exact h
        · rw [Nat.sub_eq_zero_of_le h] at hr; simp at hr
      obtain ⟨rfl, hrest⟩ : x = i ∧ rest = List.range' (i + 1) (es.size - (i + 1)) := by
        have e : es.size - i = (es.size - (i + 1)) + 1 := by omega
        rw [e, List.range'_succ] at hr
        injection hr with h1 h2
        exact ⟨h1, h2⟩
      refine wpAny_bind (wpAny_dictEntries hoa hda ?_)
      rw [Array.getElem?_eq_getElem hlt]
      have hlt' : x < ka.length := by rw [hla]; exact hlt
      obtain ⟨k, v, hkv⟩ : ∃ k v, ka[x] = (k, v) := ⟨_, _, rfl⟩
      have hdrop : ka.drop x = (k, v) :: ka.drop (x + 1) := by rw [← hkv]; exact List.drop_eq_getElem_cons hlt'
      obtain ⟨hkey, hval⟩ := hpa.get? (i := x) (e := es[x]) (k := k) (v := v) (by rw [Array.getElem?_toList]; exact Array.getElem?_eq_getElem hlt) (by rw [List.getElem?_eq_getElem hlt', hkv])
      obtain ⟨k', hk', hh⟩ := hka es[x] (Array.getElem_mem hlt)
      have ekk : k' = k := knd.inj _ _ _ hk' hkey
      rw [ekk] at hh
      rw [hdrop] at hpre
      show wpAny _ _ (holding [es[x].key, es[x].val] _ >>= _) _ _ _
      rw [hh]
      refine wpAny_bind (wpAny_holding (wpAny_bind (wpAny_dictFind_of hkey hob hdb hkb ?_)))
      cases hj : es'.findIdx? fun e => knd.is k e.key with
      | none =>
        have hn : valueAt kb k = none := by rw [← hfind k, findBy_of_findIdx?, hj]
        rcases hpre.inv with ⟨_, er⟩ | ⟨y, _, _, hy, _⟩
        · rw [er] at h'
          refine wpAny_pure ?_
          show wpAny _ _ (if (!false) = true then _ else _) _ _ _
          rw [if_pos (by decide)]
          exact wpAny_pure (wpAny_pure (h' s' js))
        · rw [hn] at hy; exact nomatch hy
      | some j =>
        obtain ⟨hjlt, _, _⟩ := Array.findIdx?_eq_some_iff_getElem.mp hj
        have hv' : valueAt kb k = some es'[j].val := by
          rw [← hfind k, findBy_of_findIdx?, hj]
          simp [Array.getElem?_eq_getElem hjlt]
        refine wpAny_bind (wpAny_dictEntries hob hdb ?_)
        rw [Array.getElem?_eq_getElem hjlt]
        rcases hpre.inv with ⟨hn, _⟩ | ⟨y, e, b', hy, he, hrr, er⟩
        · rw [hv'] at hn; exact nomatch hn
        · have ey : es'[j].val = y := Option.some.inj (hv'.symm.trans hy)
          rw [← ey, ← hval] at he
          refine wpAny_holding (wpAny_mono (he s' js) (fun r2 s2 hq => ?_) fun _ _ x => x)
          obtain ⟨her, js2⟩ := hq
          rw [her]; clear her
          have hoa2 := hoaJ s2 js2
          cases e with
          | false =>
            rw [er, Bool.false_and] at h'
            show wpAny _ _ (if (!false) = true then _ else _) _ _ _
            rw [if_pos (by decide)]
            exact wpAny_pure (wpAny_pure (h' s2 js2))
          | true =>
            rw [Bool.true_and] at er
            rw [← er] at hrr
            show wpAny _ _ (if (!true) = true then _ else _) _ _ _
            rw [if_neg (by decide)]
            refine wpAny_bind (wpAny_dictEpoch hoa2 hda ?_)
            rw [if_neg (by simp)]
            exact wpAny_pure ⟨js2, rfl, x + 1, hrest, hlt, hrr⟩
    · rintro q s' ⟨js, rfl, i, hr, hi, hpre⟩
      have hin : i = es.size := by
        rcases Nat.lt_or_ge i es.size with h | h
        · have e : es.size - i = (es.size - (i + 1)) + 1 := by omega
          rw [e, List.range'_succ] at hr; exact nomatch hr
        · exact Nat.le_antisymm hi h
      refine wpAny_pure ?_
      rw [hin, ← hla, List.drop_length] at hpre
      cases hpre
      exact h' s' js
theorem eqJ {a b : Addr} {ka kb : List (K × Value)} {r : Bool} {Q : Value → Shared → Prop} (ha : (a == sysModules) = false) (hb : (b == sysModules) = false)
    (J : Shared → Prop) (j0 : J s) (st : ∀ s', J s' → s'.heap.get? a = s.heap.get? a ∧ s'.heap.get? b = s.heap.get? b)
    (da : s.heap.DictOf knd a ka) (db : s.heap.DictOf knd b kb) (hu : A.units < cLine) (hits : ka.length = kb.length → KHits prog w A.in1 E J kb ka r) (h : ∀ s', J s' → Q (.bool (ka.length == kb.length && r)) s') :
    wpAny (model prog w) A (compareOp .Eq (.ref a) (.ref b)) Q E s := by
  refine wpAny_richCompare_same_room (op := .Eq) da.typeIs db.typeIs PySem.F.slot_dict_eq (wpAny_call_entry PySem.F.slot_dict_eq da.typeIs PySem.F.entry_dict_eq ?_ (PySem.F.args_dict_eq_2 _ _)) hu
  show wpAny _ _ (Builtin.Dict.dictSlotArgs "__eq__" ⟨[.ref a, .ref b], []⟩ >>= _) _ _ s
  refine wpAny_bind ?_
  unfold Builtin.Dict.dictSlotArgs
  refine wpAny_bind (wpAny_notOrdered_dict da.typeIs ?_)
  show wpAny _ _ (pure (Value.ref a, Value.ref b)) _ _ s
  refine wpAny_pure ?_
  refine wpAny_bind (wpAny_isInstance (T := "dict") db.typeIs PySem.F.sub_dict_dict ?_)
  simp only [Bool.not_true, Bool.false_eq_true, if_false]
  refine wpAny_bind (wpAny_pure (wpAny_bind (wpAny_pure ?_)))
  refine wpAny_bind (samePairsJ ha hb J j0 st da db hits fun s' js => ?_)
  refine wpAny_pure ⟨_, rfl, ?_, ?_⟩
  · exact fun x => nomatch x
  · simpa using h s' js
theorem neJ {a b : Addr} {ka kb : List (K × Value)} {r : Bool} {Q : Value → Shared → Prop} (ha : (a == sysModules) = false) (hb : (b == sysModules) = false)
    (J : Shared → Prop) (j0 : J s) (st : ∀ s', J s' → s'.heap.get? a = s.heap.get? a ∧ s'.heap.get? b = s.heap.get? b)
    (da : s.heap.DictOf knd a ka) (db : s.heap.DictOf knd b kb) (hu : A.units < cLine) (hits : ka.length = kb.length → KHits prog w A.in1 E J kb ka r) (h : ∀ s', J s' → Q (.bool (!(ka.length == kb.length && r))) s') :
    wpAny (model prog w) A (compareOp .NotEq (.ref a) (.ref b)) Q E s := by
  refine wpAny_richCompare_same_room (op := .NotEq) da.typeIs db.typeIs PySem.F.slot_dict_ne (wpAny_call_entry PySem.F.slot_dict_ne da.typeIs PySem.F.entry_dict_ne ?_ (PySem.F.args_dict_ne_2 _ _)) hu
  show wpAny _ _ (Builtin.Dict.dictSlotArgs "__ne__" ⟨[.ref a, .ref b], []⟩ >>= _) _ _ s
  refine wpAny_bind ?_
  unfold Builtin.Dict.dictSlotArgs
  refine wpAny_bind (wpAny_notOrdered_dict da.typeIs ?_)
  show wpAny _ _ (pure (Value.ref a, Value.ref b)) _ _ s
  refine wpAny_pure ?_
  refine wpAny_bind (wpAny_isInstance (T := "dict") db.typeIs PySem.F.sub_dict_dict ?_)
  simp only [Bool.not_true, Bool.false_eq_true, if_false]
  refine wpAny_bind (wpAny_pure (wpAny_bind (wpAny_pure ?_)))
  refine wpAny_bind (samePairsJ ha hb J j0 st da db hits fun s' js => ?_)
  refine wpAny_pure ⟨_, rfl, ?_, ?_⟩
  · exact fun x => nomatch x
  · simpa using h s' js

end
end DL
namespace DL
open PySem PySem.Spec PyProof.Rows L2
/-- == of dicts, by data -/
inductive EHits (E : D → D → Bool → Prop) (kb : List (Key × D)) : List (Key × D) → Bool → Prop
  | nil : EHits E kb [] true
  | miss {k : Key} {d : D} {r : List (Key × D)} : getG kb k = none → EHits E kb ((k, d) :: r) false
  | hit {k : Key} {d e : D} {r : List (Key × D)} {b b' : Bool} : getG kb k = some e → E d e b → EHits E kb r b' → EHits E kb ((k, d) :: r) (b && b')
def rEqDic (K : PySem.W.Frag) (E : D → D → Bool → Prop) : R2 := fun x y H Q => ∃ (G : Hp) (ka kb : List (Key × D)) (r : Bool), Same G H ∧ Rep K G (dicD ka) x ∧ Rep K G (dicD kb) y ∧ (ka.length = kb.length → EHits E kb ka r) ∧ ∀ H', Ext H H' → Q (.bl (ka.length == kb.length && r)) H'
theorem kv_get {kvs : List (Key × V)} {vs : List (Key × Value)} {k : Key} (h : KV kvs vs) : (∀ v, valV kvs k = some v → ∃ u, valueAt vs k = some u ∧ RelV v u) ∧ (valV kvs k = none → valueAt vs k = none) := by
  induction h with
  | nil => exact ⟨(fun v e => nomatch (show none = some v from e)), fun _ => rfl⟩
  | cons hd tl ih =>
    rename_i p q ps qs
    obtain ⟨pk, pv⟩ := p
    obtain ⟨qk, qv⟩ := q
    obtain ⟨e1, e2⟩ : pk = qk ∧ RelV pv qv := hd
    subst e1
    unfold valV valueAt at *
    simp only [List.find?_cons]
    by_cases e : pk = k
    · rw [decide_eq_true e]
      exact ⟨fun v h => by cases h; exact ⟨qv, rfl, e2⟩, fun h => by cases h⟩
    · rw [decide_eq_false e]
      exact ih
theorem hits_of {X : Cx} {n : Nat} {E : D → D → Bool → Prop} (h : EqB X n E) {A : Around} (sb : L2.Sub X n A) {pins : List (Addr × Obj)} {σ : L2.St} {G H : Hp} (sm : Same G H) {kb : List (Key × D)} {kvb : List (Key × V)} {vb : List (Key × Value)} (rb : KR X.K G kb kvb) (cb : KV kvb vb) :
    ∀ {ka : List (Key × D)} {r : Bool}, EHits E kb ka r → ∀ {kva : List (Key × V)} {va : List (Key × Value)}, KR X.K G ka kva → KV kva va → KHits X.prog X.w A X.xe (fun s' => ∃ H', Inv X pins σ H' s' ∧ Ext H H') vb va r := by
  intro ka r hh
  induction hh with
  | nil =>
    intro kva va ra ca
    rw [show kva = [] from ra] at ca
    cases ca
    exact .nil
  | miss hm =>
    intro kva va ⟨v, rr, e1, _, _⟩ ca
    rw [e1] at ca
    cases ca with
    | cons hd tl =>
      rename_i q qs
      obtain ⟨qk, qv⟩ := q
      obtain ⟨e2, _⟩ := (show _ = qk ∧ RelV v qv from hd)
      subst e2
      exact .miss ((kv_get cb).2 (rb.get.2 hm))
  | hit hg he _ ih =>
    intro kva va ⟨v, rr, e1, r1, r2⟩ ca
    rw [e1] at ca
    cases ca with
    | cons hd tl =>
      rename_i q qs
      obtain ⟨qk, qv⟩ := q
      obtain ⟨e2, rv⟩ := (show _ = qk ∧ RelV v qv from hd)
      subst e2
      obtain ⟨w, hw, rw_⟩ := rb.get.1 _ hg
      obtain ⟨u, hu, ru⟩ := (kv_get cb).1 _ hw
      refine .hit hu (fun s' ⟨H1, J1, ex1⟩ => ?_) (ih r2 tl)
      refine wpAny_mono (h.run A pins s' σ G H1 v w qv u _ _ _ sb J1 rv ru (fun p o hp => ex1 p o (sm p o hp)) r1 rw_ he) (fun r s2 q => ?_) fun _ _ x => x
      obtain ⟨hr, H2, J2, ex2⟩ := q
      exact ⟨hr, H2, J2, ex1.trans ex2⟩
theorem op_eqDic {X : Cx} {n : Nat} {E : D → D → Bool → Prop} (h : EqB X n E) (hr : Room (n + 1) X.A) : OpR X (compareOp .Eq) (rEqDic X.K E) := by
  intro pins s σ H x y v u Q I rx ry ⟨G, ka, kb, r, sm, r1, r2, hits, q⟩
  obtain ⟨a, oa, kva, ea, ga, ra⟩ := rep_dicD.mp r1
  obtain ⟨b, ob, kvb, eb, gb, rb⟩ := rep_dicD.mp r2
  subst ea eb
  cases (show v = Value.ref a from rx)
  cases (show u = Value.ref b from ry)
  obtain ⟨z1, lo1, va, rela, dda⟩ := dk_rd I.hok (.inr ⟨oa, sm _ _ ga⟩)
  obtain ⟨z2, lo2, vb, relb, ddb⟩ := dk_rd I.hok (.inr ⟨ob, sm _ _ gb⟩)
  have oka : s.heap.get? a = some oa := (show ObjOk X.prog X.w H s.heap a (.frz oa (.dK kva)) from I.hok a _ (sm _ _ ga)).1
  have okb : s.heap.get? b = some ob := (show ObjOk X.prog X.w H s.heap b (.frz ob (.dK kvb)) from I.hok b _ (sm _ _ gb)).1
  have hla : va.length = ka.length := by rw [← rela.length, ra.length]
  have hlb : vb.length = kb.length := by rw [← relb.length, rb.length]
  refine eqJ lo1 lo2 (fun s' => ∃ H', Inv X pins σ H' s' ∧ Ext H H') ⟨H, I, Ext.rfl'⟩ (fun s' ⟨H', J', ex⟩ => ?_) dda ddb hr.units0 (fun e => hits_of h (L2.Sub.in1 ⟨hr, rfl⟩) sm rb relb (hits (by omega)) ra rela) fun s' ⟨H', J', ex⟩ => ?_
  · rw [oka, okb]
    exact ⟨(show ObjOk X.prog X.w H' s'.heap a (.frz oa (.dK kva)) from J'.hok a _ (ex _ _ (sm _ _ ga))).1, (show ObjOk X.prog X.w H' s'.heap b (.frz ob (.dK kvb)) from J'.hok b _ (ex _ _ (sm _ _ gb))).1⟩
  · rw [hla, hlb]
    exact ⟨.bl _, H', J', rfl, q H' ex⟩
/-- what objects that only come say of a region -/
theorem Hd.ext {K : PySem.W.Frag} {I : Iv K} {G H H' : Hp} (h : Hd I G H) (e : Ext H H') : Hd I G H' :=
  ⟨I.loc G G H H' (Same.refl G) (fun a ha => by
    cases q : H a with
    | none => exact absurd q (h.dom ha)
    | some o => exact e a o q) h.ph, h.fr⟩
theorem p2_eqDic {K : PySem.W.Frag} {I : Iv K} {E : D → D → Bool → Prop} {ka kb : List (Key × D)} {r : Bool} (h : ka.length = kb.length → EHits E kb ka r) : P2 K I (rEqDic K E) (dicD ka) (dicD kb) (.bl (ka.length == kb.length && r)) := fun P pp G H v w Q s hI r1 r2 q =>
  ⟨G, ka, kb, r, s, r1, r2, h, fun H' ex => q (.bl _) (.bl _) G H' I (Same.refl G) (fun p o hp => ex p o (s p o hp)) (hI.ext ex) rfl pp⟩
end DL
set_option Elab.async false
set_option linter.all false
set_option maxRecDepth 100000
set_option maxHeartbeats 4000000
namespace DL
open PySem PySem.Spec PyProof.Rows L2
/-! ### instances of own classes: methods, subscripts, in, operators -/
/-- an instance of C at a, m no attribute of its own -/
def IsI (H : Hp) (a C : Addr) (m : Str) : Prop := (∃ dx vs, SlX.Slt H a C dx vs) ∨ ∃ dx fs, H a = some (.ins C dx fs) ∧ fs.lookup m = none
theorem isi_inst {X : Cx} {pins : List (Addr × Obj)} {σ : L2.St} {H : Hp} {s : Shared} {a C : Addr} {m : Str} (J : Inv X pins σ H s) (h : IsI H a C m) : ∃ ox od, PySem.W.InstAt s.heap a ox C (some od) ∧ PySem.W.lookIn m od = some none := by
  rcases h with ⟨dx, vs, h⟩ | ⟨dx, fs, h, hl⟩
  · obtain ⟨sl, od, _, O, k⟩ := SlX.slt_inst J h
    exact ⟨_, od, O, k m⟩
  · obtain ⟨mA, O, r, _, _, _⟩ := ins_get J.hok h
    have hn : mA m = none := RelO.none_of (by rw [← hl]; exact r m)
    obtain ⟨od, J2, k⟩ := O.look
    exact ⟨_, od, J2, by rw [k, hn]⟩
/-- .. by data -/
def InsD {K : PySem.W.Frag} (C : Addr) (m : Str) (x : D) (I : Iv K) : Prop := ∀ (G H : Hp) (v : V), Same G H → Hd I G H → Rep K G x v → ∃ a, v = .ref a ∧ IsI H a C m
theorem insD_slo {K : PySem.W.Frag} {C : Addr} {m : Str} {fs : List D} {I : Iv K} : InsD C m (.slo C fs) I := fun G H v s _ ⟨a, dx, vs, e, t, _⟩ => ⟨a, e, .inl ⟨dx, _, slt_mono s t⟩⟩
section
variable {X : Cx} {W : WX} {R : Rx X.K} {n : Nat} {g : Addr} {S : Spec X.K} {pins : List (Addr × Obj)} {σ : L2.St} {H : Hp} {s : Shared}
theorem run_own (tk : Takes X W) {A : Around} {Q : VK} {us : List Value} {ws : List V} {sp : Sp} (F : FnR X.prog X.w X.K X.mg X.base (L2.CX X.prog X.w) n g sp) (hr : Room n A) (e0 : Env0 X.prog X.w X.K X.mg X.base A X.stack s H) (I : Inv X pins σ H s) (r : Vals ws us) (h : sp ws H Q (WE W σ)) :
    codeAny (model X.prog X.w) A (.call (.ref g) ⟨us, []⟩) (fun r s' => match r with | .ok (.ret v) => EP X pins σ Q v s' | .ok _ => False | .error e => X.xe e s') s := by
  refine codeAny_mono (F A X.stack s H us ws Q (WE W σ) hr e0 r h) fun r s' hq => ?_
  cases r with
  | error e => exact passAt tk σ pins H s e s' I hq
  | ok fl =>
    cases fl with
    | ret u => exact I.after hq
    | next => exact False.elim hq
    | brk => exact False.elim hq
    | cont => exact False.elim hq
end
/-- a promise by data, met at the call -/
theorem spD_at {X : Cx} {W : WX} {R : Rx X.K} {S : Spec X.K} {I : Iv X.K} {G H : Hp} {σ : L2.St} {ds : List D} {vs : List V} {Q : VK} {P : D → Iv X.K → Prop} (s : Same G H) (h : Hd I G H) (r : Reps X.K G ds vs) (k : S I ds P R) (q : Kv X.K Q G P) (qx : Kx X.K W σ G R) : spD X.K S vs H Q (WE W σ) :=
  ⟨I, G, ds, P, R, s, h, r, k, q, fun C dd fs l G' H' I' s2 t2 h2 r2 hx p => qx C dd fs l G' H' I' s2 t2 h2 r2 hx p⟩
/-- the class as getattr sees it -/
structure PlG (K : PySem.W.Frag) (C : Addr) : Prop where
  g : ∀ f, PySem.W.plainGet K C f = true
section
variable {X : Cx} {W : WX} {R : Rx X.K} {n : Nat} {C : Addr} {m : Str} {S : Spec X.K} {δ : DEnv} {I : Iv X.K} {P : D → Iv X.K → Prop} {o a b e : Expr} {es : List Expr} {pos apos p : Pos} {κ : Ko X.K}
/-- o.m(e, ..) -/
theorem ev_methA {pl : Sem Bool} (tk : Takes X W) (c : PlG X.K C) (hf : PySem.W.findIn X.K (.ref C) m = some (some (.ref (He.ma X.K C m)))) (hi : PySem.W.isFn X.K (.ref (He.ma X.K C m)) = true) (hk : PySem.W.keepIn X.K (.ref (He.ma X.K C m)) = true) (F : FnR X.prog X.w X.K X.mg X.base (L2.CX X.prog X.w) n (He.ma X.K C m) (spD X.K S)) (hr : Room n X.A)
    (h : EvX X W R o δ I fun x I1 => InsD C m x I1 ∧ EvA X W R (e :: es) δ I1 fun ds I2 => S I2 (x :: ds) P R)
    (hst : starEach (e :: es) X.env = (false, eval e X.env) :: starEach es X.env := by rfl) (hpl : (backTo pos (starEach es X.env)).any (·.1) = false := by rfl)
    (ht : eval (.Call (.Attribute o m apos) (e :: es) [] pos) X.env = (do
      let ov ← eval o X.env
      standAt apos.atName
      let (f, first) ← holding [ov] (getMethod ov m pl)
      callWith pos f first (backTo pos (starEach (e :: es) X.env)) (backToKw pos (keywordEach [] X.env))) := by rfl) : EvX X W R (.Call (.Attribute o m apos) (e :: es) [] pos) δ I P := fun σ G H Q hE s hI qx q => by
  refine ⟨fun pins st J => PySem.W.methodCall_KW (pl := pl) (thn (peC.run pins st σ H _ J (h σ G H (fun v H1 => ∃ a, v = .ref a ∧ IsI H1 a C m ∧ wpA X (e :: es) σ H1 fun vs H2 => spD X.K S (.ref a :: vs) H2 Q (WE W σ)) hE s hI qx fun v x G1 H1 I1 s1 t1 h1 r1 ⟨hx, ka⟩ => ?_)) fun u s1 ⟨x, H1, J1, rx, q1⟩ => ?_) ht⟩
  · obtain ⟨a, ea, hia⟩ := hx G1 H1 v t1 h1 r1
    refine ⟨a, ea, hia, ka σ G1 H1 _ (hE.mono s1) t1 h1 (qx.mono s1) fun vs ds G2 H2 I2 s2 t2 h2 r2 k2 => ?_⟩
    exact spD_at t2 h2 (.cons (by rw [← ea]; exact r1.mono s2) r2) k2 (q.mono (s1.trans s2)) (qx.mono (s1.trans s2))
  · obtain ⟨a, ea, hia, wa⟩ := q1
    subst ea
    obtain rfl : u = Value.ref a := rx
    obtain ⟨ox, od, O, hl⟩ := isi_inst J1 hia
    refine PySem.W.method_fn J1.kIn O (PySem.W.plainGet_of (c.g m)).1 (PySem.W.plainGet_of (c.g m)).2 hf (beq_iff_eq.mp hi) (by show (PySem.W.lookIn m od).map (·.isSome) = some false; rw [hl]; rfl) ?_
    refine PySem.W.callWith_K (first := [.ref a]) (h₀ := X.base) J1.ok.mod.kin hk (thn (paC.run pos pins s1 σ H1 _ J1 wa) fun us s2 ⟨vs, H2, J2, r, q2⟩ => ⟨J2.kIn, ?_⟩) hst hpl
    exact wpAny_call (run_own tk F hr J2.env0 J2 (us := .ref a :: us) (ws := .ref a :: vs) (.cons rfl r) q2)
theorem ev_meth0 {pl : Sem Bool} (tk : Takes X W) (c : PlG X.K C) (hf : PySem.W.findIn X.K (.ref C) m = some (some (.ref (He.ma X.K C m)))) (hi : PySem.W.isFn X.K (.ref (He.ma X.K C m)) = true) (hk : PySem.W.keepIn X.K (.ref (He.ma X.K C m)) = true) (F : FnR X.prog X.w X.K X.mg X.base (L2.CX X.prog X.w) n (He.ma X.K C m) (spD X.K S)) (hr : Room n X.A)
    (h : EvX X W R o δ I fun x I1 => InsD C m x I1 ∧ S I1 [x] P R)
    (ht : eval (.Call (.Attribute o m apos) [] [] pos) X.env = (do
      let ov ← eval o X.env
      standAt apos.atName
      let (f, first) ← holding [ov] (getMethod ov m pl)
      callWith pos f first (backTo pos (starEach [] X.env)) (backToKw pos (keywordEach [] X.env))) := by rfl) : EvX X W R (.Call (.Attribute o m apos) [] [] pos) δ I P := fun σ G H Q hE s hI qx q => by
  refine ⟨fun pins st J => PySem.W.methodCall_KW (pl := pl) (thn (peC.run pins st σ H _ J (h σ G H (fun v H1 => ∃ a, v = .ref a ∧ IsI H1 a C m ∧ spD X.K S [.ref a] H1 Q (WE W σ)) hE s hI qx fun v x G1 H1 I1 s1 t1 h1 r1 ⟨hx, ka⟩ => ?_)) fun u s1 ⟨x, H1, J1, rx, q1⟩ => ?_) ht⟩
  · obtain ⟨a, ea, hia⟩ := hx G1 H1 v t1 h1 r1
    exact ⟨a, ea, hia, spD_at t1 h1 (.cons (by rw [← ea]; exact r1) .nil) ka (q.mono s1) (qx.mono s1)⟩
  · obtain ⟨a, ea, hia, q2⟩ := q1
    subst ea
    obtain rfl : u = Value.ref a := rx
    obtain ⟨ox, od, O, hl⟩ := isi_inst J1 hia
    refine PySem.W.method_fn J1.kIn O (PySem.W.plainGet_of (c.g m)).1 (PySem.W.plainGet_of (c.g m)).2 hf (beq_iff_eq.mp hi) (by show (PySem.W.lookIn m od).map (·.isSome) = some false; rw [hl]; rfl) ?_
    exact PySem.W.callWith_K0 (first := [.ref a]) J1.kIn hk (wpAny_call (run_own tk F hr J1.env0 J1 (us := [.ref a]) (ws := [.ref a]) (.cons rfl .nil) q2))
/-- o[i], an own __getitem__ -/
theorem ev_subOwn (tk : Takes X W) (hf : PySem.W.findIn X.K (.ref C) "__getitem__" = some (some (.ref (He.ma X.K C "__getitem__")))) (hi : PySem.W.isFn X.K (.ref (He.ma X.K C "__getitem__")) = true) (hn : PySem.W.fnIn X.K (He.ma X.K C "__getitem__") = true) (F : FnR X.prog X.w X.K X.mg X.base (L2.CX X.prog X.w) n (He.ma X.K C "__getitem__") (spD X.K S)) (hr : Room (n + 1) X.A)
    (h : EvX X W R a δ I fun x I1 => EvX X W R b δ I1 fun y I2 => InsD C "" x I2 ∧ S I2 [x, y] P R)
    (hsl : ∀ v i, subscripted b true v i = runValue (.builtin "lifetime.subscript" ⟨[v, i], []⟩) := by intro _ _; with_unfolding_all rfl) : EvX X W R (.Subscript a b pos) δ I P := fun σ G H Q hE s hI qx q => by
  refine ⟨fun pins st J => Subscript_ (binT peC peC J (R := fun x y H2 => ∃ c, x = .ref c ∧ IsI H2 c C "" ∧ spD X.K S [x, y] H2 Q (WE W σ)) (h σ G H _ hE s hI qx fun v x G1 H1 I1 s1 t1 h1 r1 k1 => k1 σ G1 H1 _ (hE.mono s1) t1 h1 (qx.mono s1) fun w y G2 H2 I2 s2 t2 h2 r2 ⟨hx, k2⟩ => ?_) fun v u s2 x y H2 J2 rx ry ⟨c, ec, hic, q2⟩ => ?_)⟩
  · obtain ⟨c, ec, hic⟩ := hx G2 H2 v t2 h2 (r1.mono s2)
    exact ⟨c, ec, hic, spD_at t2 h2 (.cons (r1.mono s2) (.cons r2 .nil)) k2 (q.mono (s1.trans s2)) (qx.mono (s1.trans s2))⟩
  · subst ec
    obtain rfl : v = Value.ref c := rx
    obtain ⟨ox, od, O, _⟩ := isi_inst J2 hic
    obtain ⟨mm, hF⟩ := J2.fr
    exact PySem.W.sub_K hF J2.ok.mod.kin O hf hn hi (wpAny_call (run_own tk F hr.in1 J2.env0.in1 J2 (us := [.ref c, u]) (ws := [.ref c, y]) (.cons rfl (.cons ry .nil)) q2)) (hsl _ _)
/-- x in o, x not in o: an own __contains__ that says a truth -/
theorem ev_inOwn (tk : Takes X W) (hf : PySem.W.findIn X.K (.ref C) "__contains__" = some (some (.ref (He.ma X.K C "__contains__")))) (hi : PySem.W.isFn X.K (.ref (He.ma X.K C "__contains__")) = true) (F : FnR X.prog X.w X.K X.mg X.base (L2.CX X.prog X.w) n (He.ma X.K C "__contains__") (spD X.K S)) (hr : Room n X.A)
    (h : EvX X W R a δ I fun x I1 => EvX X W R b δ I1 fun y I2 => InsD C "" y I2 ∧ S I2 [y, x] (fun d I3 => ∃ k, d = .bl k ∧ P (.bl k) I3) R) (hm : behindInMarks .In b = false := by rfl) : EvX X W R (.Compare a [.In] [b] pos) δ I P := fun σ G H Q hE s hI qx q => by
  refine ⟨fun pins st J => wpAny_Compare1 (binT peC peC J (R := fun x y H2 => ∃ c, y = .ref c ∧ IsI H2 c C "" ∧ spD X.K S [y, x] H2 (fun v H3 => ∃ k, v = .bl k ∧ Q (.bl k) H3) (WE W σ)) (h σ G H _ hE s hI qx fun v x G1 H1 I1 s1 t1 h1 r1 k1 => k1 σ G1 H1 _ (hE.mono s1) t1 h1 (qx.mono s1) fun w y G2 H2 I2 s2 t2 h2 r2 ⟨hx, k2⟩ => ?_) fun v u s2 x y H2 J2 rx ry ⟨c, ec, hic, q2⟩ => ?_) hm⟩
  · obtain ⟨c, ec, hic⟩ := hx G2 H2 w t2 h2 r2
    refine ⟨c, ec, hic, spD_at t2 h2 (.cons r2 (.cons (r1.mono s2) .nil)) k2 (fun z d G3 H3 I3 s3 t3 h3 r3 ⟨k, ed, pp⟩ => ?_) (qx.mono (s1.trans s2))⟩
    subst ed
    exact ⟨k, r3, q (.bl k) (.bl k) G3 H3 I3 ((s1.trans s2).trans s3) t3 h3 rfl pp⟩
  · subst ec
    obtain rfl : u = Value.ref c := ry
    obtain ⟨ox, od, O, _⟩ := isi_inst J2 hic
    obtain ⟨mm, hF⟩ := J2.fr
    refine PySem.W.in_K hF J2.ok.mod.kin O hf hi (wpAny_mono (wpAny_call (run_own tk F hr J2.env0 J2 (us := [.ref c, v]) (ws := [.ref c, x]) (.cons rfl (.cons rx .nil)) q2)) (fun r s3 z => ?_) fun _ _ x => x)
    obtain ⟨z', H3, J3, rz, k, ek, qz⟩ := z
    subst ek
    cases (show r = Value.bool k from rz)
    exact wpAny_truthy_bool ⟨.bl k, H3, J3, rfl, qz⟩
theorem ev_ninOwn (tk : Takes X W) (hf : PySem.W.findIn X.K (.ref C) "__contains__" = some (some (.ref (He.ma X.K C "__contains__")))) (hi : PySem.W.isFn X.K (.ref (He.ma X.K C "__contains__")) = true) (F : FnR X.prog X.w X.K X.mg X.base (L2.CX X.prog X.w) n (He.ma X.K C "__contains__") (spD X.K S)) (hr : Room n X.A)
    (h : EvX X W R a δ I fun x I1 => EvX X W R b δ I1 fun y I2 => InsD C "" y I2 ∧ S I2 [y, x] (fun d I3 => ∃ k, d = .bl k ∧ P (.bl (!k)) I3) R) (hm : behindInMarks .NotIn b = false := by rfl) : EvX X W R (.Compare a [.NotIn] [b] pos) δ I P := fun σ G H Q hE s hI qx q => by
  refine ⟨fun pins st J => wpAny_Compare1 (binT peC peC J (R := fun x y H2 => ∃ c, y = .ref c ∧ IsI H2 c C "" ∧ spD X.K S [y, x] H2 (fun v H3 => ∃ k, v = .bl k ∧ Q (.bl (!k)) H3) (WE W σ)) (h σ G H _ hE s hI qx fun v x G1 H1 I1 s1 t1 h1 r1 k1 => k1 σ G1 H1 _ (hE.mono s1) t1 h1 (qx.mono s1) fun w y G2 H2 I2 s2 t2 h2 r2 ⟨hx, k2⟩ => ?_) fun v u s2 x y H2 J2 rx ry ⟨c, ec, hic, q2⟩ => ?_) hm⟩
  · obtain ⟨c, ec, hic⟩ := hx G2 H2 w t2 h2 r2
    refine ⟨c, ec, hic, spD_at t2 h2 (.cons r2 (.cons (r1.mono s2) .nil)) k2 (fun z d G3 H3 I3 s3 t3 h3 r3 ⟨k, ed, pp⟩ => ?_) (qx.mono (s1.trans s2))⟩
    subst ed
    exact ⟨k, r3, q (.bl (!k)) (.bl (!k)) G3 H3 I3 ((s1.trans s2).trans s3) t3 h3 rfl pp⟩
  · subst ec
    obtain rfl : u = Value.ref c := ry
    obtain ⟨ox, od, O, _⟩ := isi_inst J2 hic
    obtain ⟨mm, hF⟩ := J2.fr
    refine PySem.W.notIn_K hF J2.ok.mod.kin O hf hi (wpAny_mono (wpAny_call (run_own tk F hr J2.env0 J2 (us := [.ref c, v]) (ws := [.ref c, x]) (.cons rfl (.cons rx .nil)) q2)) (fun r s3 z => ?_) fun _ _ x => x)
    obtain ⟨z', H3, J3, rz, k, ek, qz⟩ := z
    subst ek
    cases (show r = Value.bool k from rz)
    exact wpAny_truthy_bool ⟨.bl (!k), H3, J3, rfl, qz⟩
/-- o + o', both of one class, an own operator -/
theorem ev_binOwn {op : Operator} (tk : Takes X W) (hf : PySem.W.findIn X.K (.ref C) (PySem.dunder op.info.2) = some (some (.ref (He.ma X.K C (PySem.dunder op.info.2))))) (hi : PySem.W.isFn X.K (.ref (He.ma X.K C (PySem.dunder op.info.2))) = true) (hc : PySem.W.selfFirst X.K C = true)
    (F : FnR X.prog X.w X.K X.mg X.base (L2.CX X.prog X.w) n (He.ma X.K C (PySem.dunder op.info.2)) (spD X.K S)) (hr : Room n X.A)
    (h : EvX X W R a δ I fun x I1 => EvX X W R b δ I1 fun y I2 => InsD C "" x I2 ∧ InsD C "" y I2 ∧ S I2 [x, y] P R) : EvX X W R (.BinOp a op b pos) δ I P := fun σ G H Q hE s hI qx q => by
  refine ⟨fun pins st J => wpAny_BinOp (binT peC peC J (R := fun x y H2 => (∃ c, x = .ref c ∧ IsI H2 c C "") ∧ (∃ c, y = .ref c ∧ IsI H2 c C "") ∧ spD X.K S [x, y] H2 Q (WE W σ)) (h σ G H _ hE s hI qx fun v x G1 H1 I1 s1 t1 h1 r1 k1 => k1 σ G1 H1 _ (hE.mono s1) t1 h1 (qx.mono s1) fun w y G2 H2 I2 s2 t2 h2 r2 ⟨hx, hy, k2⟩ => ?_) fun v u s2 x y H2 J2 rx ry ⟨⟨c, ec, hic⟩, ⟨d, ed, hid⟩, q2⟩ => ?_)⟩
  · exact ⟨hx G2 H2 v t2 h2 (r1.mono s2), hy G2 H2 w t2 h2 r2, spD_at t2 h2 (.cons (r1.mono s2) (.cons r2 .nil)) k2 (q.mono (s1.trans s2)) (qx.mono (s1.trans s2))⟩
  · subst ec ed
    obtain rfl : v = Value.ref c := rx
    obtain rfl : u = Value.ref d := ry
    obtain ⟨ox, od, O, _⟩ := isi_inst J2 hic
    obtain ⟨ox', od', O', _⟩ := isi_inst J2 hid
    obtain ⟨mm, hF⟩ := J2.fr
    refine PySem.W.binop_K hF J2.ok.mod.kin O O'.type hc hf hi (wpAny_mono (wpAny_call (run_own tk F hr J2.env0 J2 (us := [.ref c, .ref d]) (ws := [.ref c, .ref d]) (.cons rfl (.cons rfl .nil)) q2)) (fun r s3 z => ?_) fun _ _ x => x)
    obtain ⟨z', H3, J3, rz, qz⟩ := z
    exact SlX.cmpback rz ⟨z', H3, J3, rz, qz⟩
end
end DL
set_option Elab.async false
set_option linter.all false
set_option maxRecDepth 100000
set_option maxHeartbeats 4000000
namespace DL
open PySem PySem.Spec PyProof.Rows L2
/-! ### lists that may change, as they stand: ==, isinstance, walks -/
section
variable {K : PySem.W.Frag} {I : Iv K} {y : D} {p : Addr} {ds : List D} {c : Rc K}
theorem dpM {G H : Hp} (s : Same G H) (h : Hd (c.fill (iLst K p ds)) G H) (ok : okPys ds = true) : Dp K H (.ref p) (.list (pyDs ds)) := by
  obtain ⟨vs, ho, r, _⟩ := h.lst
  exact .lst (SqL.of ho) (dps_of s ok r)
theorem p2_eqM (hx : okEq (.lst ds) = true) (hy : okEq y = true) (c : Rc K) (eI : I = c.fill (iLst K p ds) := by rfl) : P2 K I (rEqD K) (.adr p) y (.bl (eqD (.lst ds) y)) := fun P pp G H v w Q s hI r1 r2 q => by
  subst eI
  obtain ⟨a1, a2⟩ := Bool.and_eq_true_iff.mp hx
  obtain ⟨b1, b2⟩ := Bool.and_eq_true_iff.mp hy
  rw [show v = .ref p from r1]
  exact ⟨_, _, dpM s hI a1, dp_of s b1 r2, a2, b2, q _ (.bl _) G H _ (Same.refl G) s hI rfl pp⟩
theorem p2_neM (hx : okEq (.lst ds) = true) (hy : okEq y = true) (c : Rc K) (eI : I = c.fill (iLst K p ds) := by rfl) : P2 K I (rNeD K) (.adr p) y (.bl (!eqD (.lst ds) y)) := fun P pp G H v w Q s hI r1 r2 q => by
  subst eI
  obtain ⟨a1, a2⟩ := Bool.and_eq_true_iff.mp hx
  obtain ⟨b1, b2⟩ := Bool.and_eq_true_iff.mp hy
  rw [show v = .ref p from r1]
  exact ⟨_, _, dpM s hI a1, dp_of s b1 r2, a2, b2, q _ (.bl _) G H _ (Same.refl G) s hI rfl pp⟩
theorem pn_isiM {u : String} {b : Bool} (c : Rc K) (hb : kitB "list" u = some b := by decide +kernel) (eI : I = c.fill (iLst K p ds) := by rfl) : PN K I (rIsi K) [.adr p, .ty u] (.bl b) := fun P pp G H vs Q s hI ⟨v, r, e1, e2, v2, r2, e3, e4, e5⟩ q => by
  subst eI
  obtain ⟨ws, ho, rw', _⟩ := hI.lst
  rw [show v = .ref p from e2] at e1
  refine ⟨.ref p, .ty u, .type "list", .type u, b, by rw [e1, e3, show v2 = .ty u from e4, show r2 = [] from e5], .ty u, .base (.lst ho), kit_ty hb, ?_⟩
  exact q _ (.bl b) G H _ (Same.refl G) s hI rfl pp
end
section
variable {X : Cx} {I : Iv X.K} {a b e : Expr} {δ : DEnv} {pos pos2 : Pos} {y : D} {p : Addr} {ds : List D}
theorem pt_neM (c : Rc X.K) (hu : X.A.units + 64 < cLine) (ha : PV X I a δ (.adr p)) (hb : PV X I b δ y) (hx : okEq (.lst ds) = true) (hy : okEq y = true) (eI : I = c.fill (iLst X.K p ds) := by rfl) (hm : behindInMarks .NotEq b = false := by first | exact nomark _ | rfl) : PVT X I (.Compare a [.NotEq] [b] pos) δ (!eqD (.lst ds) y) :=
  pt_cmp (op_neD hu) ha hb (p2_neM hx hy c eI) hm
end
end DL
set_option Elab.async false
set_option linter.all false
set_option maxRecDepth 100000
set_option maxHeartbeats 4000000
namespace DL
open PySem PySem.Spec PyProof.Rows L2
section
variable {X : Cx} {W : WX} {R : Rx X.K} {a b e iter tg : Expr} {lo hi : Option Expr} {δ : DEnv} {I : Iv X.K} {pos p2 : Pos} {ds : List D} {P : D → Iv X.K → Prop} {κ : Ko X.K} {st : Stmt} {body : List Stmt}
/-- a joint behind a statement -/
theorem s_joint (M : DEnv → Iv X.K → Prop) (h : S1 X W st δ I { κ with nx := M }) (k : ∀ δ' I', M δ' I' → κ.nx δ' I') : S1 X W st δ I κ := S1.imp h k (fun _ _ x => x) (fun _ _ x => x) (fun _ _ x => x) (fun _ _ _ _ x => x)
/-- a part of a slice that may draw -/
def EvO (X : Cx) (W : WX) (R : Rx X.K) (lo : Option Expr) (δ : DEnv) (I : Iv X.K) (P : Option Int → Iv X.K → Prop) : Prop := ∀ (σ : L2.St) (G H : Hp) (Q : Option Int → Hp → Prop), EnvR X.K G δ σ → Same G H → Hd I G H → Kx X.K W σ G R →
  (∀ l G' H' I', Same G G' → Same G' H' → Hd I' G' H' → P l I' → Q l H') → wpO X lo σ H Q
theorem eo_none {P : Option Int → Iv X.K → Prop} (p : P none I) : EvO X W R none δ I P := fun σ G H Q hE s hI qx q => ⟨fun pins st J => po_none.run pins st σ H Q J (q none G H I (Same.refl G) s hI p)⟩
theorem eo_some {P : Option Int → Iv X.K → Prop} (h : EvX X W R e δ I fun d I1 => ∃ i, d = .int i ∧ P (some i) I1) : EvO X W R (some e) δ I P := fun σ G H Q hE s hI qx q => ⟨fun pins st J => (po_some peC).run pins st σ H Q J
  (h σ G H _ hE s hI qx fun v d G1 H1 I1 s1 t1 g1 r1 ⟨i, ed, p⟩ => by
    subst ed
    exact ⟨i, r1, q (some i) G1 H1 I1 s1 t1 g1 p⟩)⟩
theorem ev_slL (h : EvX X W R a δ I fun d I1 => ∃ ds, d = .lst ds ∧ EvO X W R lo δ I1 fun l I2 => EvO X W R hi δ I2 fun h I3 => P (.lst (cutD ds l h)) I3) : EvX X W R (.Subscript a (.Slice lo hi none p2) pos) δ I P := fun σ G H Q hE s hI qx q =>
  PE.wp (pe_slice sl_list peC poC poC) (h σ G H _ hE s hI qx fun v d G1 H1 I1 s1 t1 g1 r1 ⟨ds, ed, k1⟩ => by
    subst ed
    refine k1 σ G1 H1 _ (hE.mono s1) t1 g1 (qx.mono s1) fun l G2 H2 I2 s2 t2 g2 k2 => ?_
    refine k2 σ G2 H2 _ (hE.mono (s1.trans s2)) t2 g2 (qx.mono (s1.trans s2)) fun h G3 H3 I3 s3 t3 g3 pp => ?_
    obtain ⟨b, vs, ev, e1, e2⟩ := (r1.mono s2).mono s3
    refine ⟨b, vs, ev, SqL.of (t3 _ _ e1), fun p hp => ?_⟩
    have hg : G3 p = none := t3.free hp
    exact q (.ref p) (.lst (cutD ds l h)) _ _ I3 (((s1.trans s2).trans s3).trans (Evl.Ex.new hg)) (same_upd2 t3) (g3.keep hp t3) ⟨p, _, rfl, upd_same, (e2.cut l h).mono (Evl.Ex.new hg)⟩ pp)
theorem s_whileP {c : Expr} (po : PassesOwn (model X.prog X.w) X.A X.env X.xe) (Nv : Nat → DEnv → Iv X.K → Prop) (m : Nat) (i0 : Nv m δ I)
    (step : ∀ m δ' I', Nv m δ' I' → ∃ b, PVT X I' c δ' b ∧ (b = true → SX X W body δ' I' { κ with nx := fun δ'' I'' => ∃ m', m' < m ∧ Nv m' δ'' I'', ct := fun δ'' I'' => ∃ m', m' < m ∧ Nv m' δ'' I'', bk := κ.nx }) ∧ (b = false → κ.nx δ' I')) : S1 X W (.While c body [] pos) δ I κ :=
  s_while po Nv m i0 fun m δ' I' h => by
    obtain ⟨b, pt, h1, h2⟩ := step m δ' I' h
    refine pt W _ _ ?_
    cases b with
    | true => exact h1 rfl
    | false => exact h2 rfl
/-- for x in xs, where the iter draws -/
theorem s_forE (po : PassesOwn (model X.prog X.w) X.A X.env X.xe) (h : EvI X W (κ.r δ) tg iter δ I fun ds I1 => ∃ (α : Type) (xs : List α) (g : α → D) (Nv : List α → DEnv → Iv X.K → Prop), ds = xs.map g ∧ Nv [] δ I1 ∧
      (∀ p x r δ' I', xs = p ++ x :: r → Nv p δ' I' → ∃ δ'' vs, BindD X tg (g x) δ' δ'' vs ∧ SX X W body δ'' I' { κ with nx := Nv (p ++ [x]), ct := Nv (p ++ [x]), bk := κ.nx }) ∧ ∀ δ' I', Nv xs δ' I' → κ.nx δ' I')
    (hc : X.calm = true := by rfl) (hs : ∀ x, foldedSetIterable iter X.env x = pure x := by intro _; rfl) : S1 X W (.For tg iter body [] pos) δ I κ :=
  s_for po (fun σ G H RR hE s hI qx q => h σ G H RR hE s hI qx fun J ds G' H' I' s1 t1 h1 wd ⟨α, xs, g, Nv, ed, h0, step, fin⟩ => q J ds G' H' I' s1 t1 h1 wd (by
    subst ed
    exact ⟨fun i => Nv (xs.take i), h0, fun i d δ' I' hd nv => by
      obtain ⟨x, hx, rfl⟩ := get_map hd
      have hl := (List.getElem?_eq_some_iff.mp hx).1
      have e : xs = xs.take i ++ x :: xs.drop (i + 1) := by
        rw [← (List.getElem?_eq_some_iff.mp hx).2, List.getElem_cons_drop hl, List.take_append_drop]
      have e2 : xs.take (i + 1) = xs.take i ++ [x] := take_snoc hx
      obtain ⟨δ'', vs, b, q⟩ := step _ x _ δ' I' e nv
      rw [← e2] at q
      exact ⟨δ'', vs, b, q⟩, fun δ' I' nv => fin δ' I' (by rw [List.length_map, List.take_length] at nv; exact nv)⟩)) hc hs
end
theorem put_new {α : Type} {kvs : List (Key × α)} {k : Key} {v : α} (h : ∀ kv ∈ kvs, kv.1 ≠ k) : putG kvs k v = kvs ++ [(k, v)] := by
  unfold putG
  rw [if_neg]
  intro hh
  obtain ⟨kv, h1, h2⟩ := List.any_eq_true.mp hh
  exact h kv h1 (of_decide_eq_true h2)
theorem put_newT {α : Type} {xs : List α} {k : α → Str} {v : α → D} {n : Str} {d : D} (h : n ∉ xs.map k) : putG (xs.map fun x => ((.inr (k x) : Key), v x)) (.inr n) d = xs.map (fun x => ((.inr (k x) : Key), v x)) ++ [(.inr n, d)] := put_new fun kv hkv => by
  obtain ⟨x, hx, rfl⟩ := List.mem_map.mp hkv
  intro e
  exact h (List.mem_map.mpr ⟨x, hx, Sum.inr.inj e⟩)
end DL
set_option Elab.async false
set_option linter.all false
set_option maxRecDepth 100000
set_option maxHeartbeats 4000000
namespace DL
open PySem PySem.Spec PyProof.Rows L2
/-! ### instances with attributes that may change -/
def iIns (K : PySem.W.Frag) (x C dx : Addr) (fs : List (Str × D)) : Iv K where
  F := fun a => a = x ∨ a = dx
  φ := fun G H => H dx = some (.own x) ∧ dx ≠ x ∧ ∃ vs, H x = some (.ins C dx vs) ∧ FRep K G fs vs
  loc := fun G G' H H' s k ⟨h1, h0, vs, h2, h3⟩ => ⟨by rw [k dx (.inr rfl)]; exact h1, h0, vs, by rw [k x (.inl rfl)]; exact h2, h3.mono s⟩
  dom := fun G H ⟨h1, _, vs, h2, _⟩ a ha => by
    rcases ha with e | e
    · subst e; rw [h2]; simp
    · subst e; rw [h1]; simp
def putA (f : Str) (d : D) : List (Str × D) → List (Str × D)
  | [] => [(f, d)]
  | (g, x) :: r => if g = f then (g, d) :: r else (g, x) :: putA f d r
theorem FRep.put {K : PySem.W.Frag} {G : Hp} {f : Str} {d : D} {v : V} (r : Rep K G d v) : ∀ {fs : List (Str × D)} {vs : List (Str × V)}, FRep K G fs vs → FRep K G (putA f d fs) (putF f v vs)
  | [], l, h => by
    rw [show l = [] from h]
    exact ⟨v, [], rfl, r, rfl⟩
  | (g, x) :: ps, l, ⟨u, m, e, r1, r2⟩ => by
    rw [e]
    show FRep K G (if g = f then _ else _) (if g = f then _ else _)
    by_cases hg : g = f
    · rw [if_pos hg, if_pos hg]
      exact ⟨v, m, rfl, r, r2⟩
    · rw [if_neg hg, if_neg hg]
      exact ⟨u, _, rfl, r1, FRep.put r r2⟩
theorem FRep.none {K : PySem.W.Frag} {G : Hp} {f : Str} : ∀ {fs : List (Str × D)} {vs : List (Str × V)}, FRep K G fs vs → fs.lookup f = none → vs.lookup f = none
  | [], l, h, _ => by rw [show l = [] from h]; rfl
  | (g, x) :: ps, l, ⟨u, m, e, r1, r2⟩, hn => by
    rw [e]
    simp only [List.lookup] at hn ⊢
    split at hn
    · cases hn
    · exact FRep.none r2 hn
theorem FRep.len {K : PySem.W.Frag} {G : Hp} {fs : List (Str × D)} {vs : List (Str × V)} (h : FRep K G fs vs) : vs.length = fs.length := by
  have := congrArg List.length (FRep.of h).1
  simpa using this
section
variable {K : PySem.W.Frag} {G H : Hp} {x C dx : Addr} {fs : List (Str × D)} {c : Rc K} {I : Iv K} {f m : Str} {d : D}
theorem Hd.ins (h : Hd (c.fill (iIns K x C dx fs)) G H) : ∃ vs, H x = some (.ins C dx vs) ∧ FRep K G fs vs ∧ G x = none := by
  obtain ⟨h1, h0, vs, h2, h3⟩ := h.inner.ph
  exact ⟨vs, h2, h3, h.inner.fr x (.inl rfl)⟩
theorem Hd.insSet {v : V} (h : Hd (c.fill (iIns K x C dx fs)) G H) (r : Rep K G d v) {vs : List (Str × V)} (hx : H x = some (.ins C dx vs)) (rf : FRep K G fs vs) : Hd (c.fill (iIns K x C dx (putA f d fs))) G (upd H x (.ins C dx (putF f v vs))) :=
  Hd.change (I := iIns K x C dx fs) (I' := iIns K x C dx (putA f d fs)) (fun _ => Iff.rfl) (fun a ha => upd_ne fun e => ha (.inl e)) ⟨by
    obtain ⟨h1, h0, _⟩ := h.inner.ph
    exact ⟨(upd_ne h0).trans h1, h0, _, upd_same, rf.put r⟩, h.inner.fr⟩ h
/-- such a thing is an instance -/
theorem insD_ins (c : Rc K) (hm : fs.lookup m = none) (eI : I = c.fill (iIns K x C dx fs) := by rfl) : InsD C m (.adr x) I := fun G H v s h r => by
  subst eI
  obtain ⟨vs, h2, h3, _⟩ := h.ins
  exact ⟨x, r, .inr ⟨dx, vs, h2, h3.none hm⟩⟩
end
section
variable {X : Cx} {W : WX} {R : Rx X.K} {a b e o : Expr} {es : List Expr} {δ : DEnv} {I : Iv X.K} {P : D → Iv X.K → Prop} {pos p q' : Pos} {f : Str} {d z : D} {x C dx : Addr} {fs : List (Str × D)} {κ : Ko X.K}
/-- o.f -/
theorem ev_fld (k : Rc X.K) (c : Cls X.K C) (n : NoAttr X.K C f) (hd : fs.lookup f = some d) (h : EvX X W R o δ I fun y I1 => y = .adr x ∧ I1 = k.fill (iIns X.K x C dx fs) ∧ P d I1) (hb : attributeBase o f X.env (eval o X.env) = eval o X.env := by rfl) : EvX X W R (.Attribute o f pos) δ I P := fun σ G H Q hE s hI qx q =>
  PE.wp (pe_fld peC hb) (h σ G H _ hE s hI qx fun v y G1 H1 I1 s1 t1 h1 r1 ⟨ey, ei, pp⟩ => by
    subst ey ei
    obtain ⟨vs, h2, h3, _⟩ := h1.ins
    obtain ⟨u, hu, ru⟩ := (FRep.of h3).2 f d hd
    exact ⟨x, C, dx, vs, u, r1, h2, c, n, hu, q u d G1 H1 _ s1 t1 h1 ru pp⟩)
theorem pv_fld (k : Rc X.K) (c : Cls X.K C) (n : NoAttr X.K C f) (ho : PV X I o δ (.adr x)) (hd : fs.lookup f = some d) (hb : attributeBase o f X.env (eval o X.env) = eval o X.env := by rfl) (eI : I = k.fill (iIns X.K x C dx fs) := by rfl) : PV X I (.Attribute o f pos) δ d := fun W R P pp =>
  ev_fld k c n hd (ho W R _ ⟨rfl, eI, pp⟩) hb
/-- o.f = e -/
theorem s_fld (c : Cls X.K C) (n : NoAttr X.K C f) (h : EvX X W (κ.r δ) e δ I fun d I1 => ∃ (k : Rc X.K) (x dx : Addr) (fs : List (Str × D)), I1 = k.fill (iIns X.K x C dx fs) ∧ PV X I1 o δ (.adr x) ∧ fs.length < 1000 ∧ κ.nx δ (k.fill (iIns X.K x C dx (putA f d fs))))
    (hs : swapsWith e (some (.Attribute o f q')) pos.line X.env = pure false := by rfl) : S1 X W (.Assign [.Attribute o f q'] e pos) δ I κ := fun σ G H E hE s hI kk =>
  PS.wp (ps_fld peC peC hs) (h σ G H _ hE s hI (kk.kx hE) fun v d1 G1 H1 I1 s1 t1 h1 r1 ⟨k, x, dx, fs, ei, ho, hl, nx⟩ => by
    subst ei
    refine ho W (κ.r δ) (fun z J => z = .adr x ∧ J = k.fill (iIns X.K x C dx fs)) ⟨rfl, rfl⟩ σ G1 H1 _ (hE.mono s1) t1 h1 ((kk.kx hE).mono s1) fun v2 d2 G2 H2 I2 s2 t2 h2 r2 ⟨ed2, ei2⟩ => ?_
    subst ed2 ei2
    obtain ⟨vs, h3, h4, h5⟩ := h2.ins
    refine ⟨x, C, dx, vs, r2, h3, c, n, by rw [h4.len]; exact hl, ?_⟩
    exact kk.nx δ σ G2 _ _ (s1.trans s2) (same_upd t2 h5) (h2.insSet (r1.mono s2) h3 h4) (hE.mono (s1.trans s2)) nx)
theorem s_fldP (k : Rc X.K) (c : Cls X.K C) (n : NoAttr X.K C f) (ho : PV X I o δ (.adr x)) (h : PV X I e δ d) (nx : κ.nx δ (k.fill (iIns X.K x C dx (putA f d fs))))
    (hs : swapsWith e (some (.Attribute o f q')) pos.line X.env = pure false := by rfl) (eI : I = k.fill (iIns X.K x C dx fs) := by rfl) (hl : decide (fs.length < 1000) = true := by rfl) : S1 X W (.Assign [.Attribute o f q'] e pos) δ I κ := by
  subst eI
  exact s_fld c n (h W _ _ ⟨k, x, dx, fs, rfl, ho, of_decide_eq_true hl, nx⟩) hs
/-- o.f op= e -/
theorem s_fldaug {op : Operator} {rd : V → V → Hp → VK → Prop} (k : Rc X.K) (c : Cls X.K C) (n : NoAttr X.K C f) (hop : InOp X op rd) (ho : PV X I o δ (.adr x)) (hd : fs.lookup f = some d) (he : PV X I e δ z) {y : D} (h2 : P2 X.K I rd d z y) (nx : κ.nx δ (k.fill (iIns X.K x C dx (putA f y fs)))) (eI : I = k.fill (iIns X.K x C dx fs) := by rfl) (hl0 : decide (fs.length < 1000) = true := by rfl) : S1 X W (.AugAssign (.Attribute o f p) op e pos) δ I κ := fun σ G H E hE s hI kk => by
  subst eI
  have hl : fs.length < 1000 := of_decide_eq_true hl0
  exact PS.wp (ps_fldaug peC peC hop) (ho W (κ.r δ) (fun z J => z = .adr x ∧ J = k.fill (iIns X.K x C dx fs)) ⟨rfl, rfl⟩ σ G H _ hE s hI (kk.kx hE) fun v1 d1 G1 H1 I1 s1 t1 h1 r1 ⟨ed1, ei1⟩ => by
    subst ed1 ei1
    obtain ⟨vs, h3, h4, h5⟩ := h1.ins
    obtain ⟨u, hu, ru⟩ := (FRep.of h4).2 f d hd
    refine ⟨x, C, dx, vs, u, r1, h3, c, n, hu, ?_⟩
    refine he W (κ.r δ) (fun w J => w = z ∧ J = k.fill (iIns X.K x C dx fs)) ⟨rfl, rfl⟩ σ G1 H1 _ (hE.mono s1) t1 h1 ((kk.kx hE).mono s1) fun v2 d2 G2 H2 I2 s2 t2 g2 r2 ⟨ed2, ei2⟩ => ?_
    subst ed2 ei2
    refine h2 (fun w J => w = y ∧ J = k.fill (iIns X.K x C dx fs)) ⟨rfl, rfl⟩ G2 H2 u v2 _ t2 g2 (ru.mono s2) r2 fun v3 d3 G3 H3 I3 s3 t3 g3 r3 ⟨ed3, ei3⟩ => ?_
    subst ed3 ei3
    obtain ⟨vs', h3', h4', h5'⟩ := g3.ins
    refine ⟨dx, vs', h3', by rw [h4'.len]; exact hl, ?_⟩
    exact kk.nx δ σ G3 _ _ ((s1.trans s2).trans s3) (same_upd t3 h5') (g3.insSet r3 h3' h4') (hE.mono ((s1.trans s2).trans s3)) nx)
/-- C(e, ..): an instance with attributes -/
theorem ev_makeI {x' : Str} {g : Addr} {fd : FuncData} {ps : List Str} {j : Nat} {S : Spec X.K} (tk : Takes X W) (M : Mk X.K C g) (F : FnOk X.prog X.w X.K X.mg X.base (L2.CX X.prog X.w) j g fd ps (spD X.K S)) (hr : Room (j + 1) X.A) (hm : X.mg x' = some (.ref C)) (hb : L2.Binds X.K fd ps [])
    (h : EvA X W R (e :: es) δ I fun ds I1 => ∀ y dy, (∀ a, ¬ (I1.F a ∧ (a = y ∨ a = dy))) → S (I1.and (iIns X.K y C dy [])) (.adr y :: ds) (fun v I3 => v = .non ∧ P (.adr y) I3) (fun C' fs I3 => R C' fs I3))
    (hg : Gl X x' := by rfl) (hdb : (x' == ("__debug__" : Str)) = false := by decide)
    (he : starEach (e :: es) X.env = (false, eval e X.env) :: starEach es X.env := by rfl) (hpl : (backTo pos (starEach es X.env)).any (·.1) = false := by rfl) : EvX X W R (.Call (.Name x' p) (e :: es) [] pos) δ I P := fun σ G H Q hE s hI qx q => ⟨fun pins s0 J0 => by
  refine wpAny_Call_Name_kw (ld_glob J0 hg hm ?_ hdb)
  refine PySem.W.callWith_K (h₀ := X.base) J0.ok.mod.kin M.kp (thn (paC.run pos pins s0 σ H _ J0 (h σ G H (fun vs H1 => ∀ x dx, H1 x = none → H1 dx = none → dx ≠ x → spD X.K S (.ref x :: vs) (upd (upd H1 dx (.own x)) x (.ins C dx [])) (fun v H2 => v = .non ∧ Q (.ref x) H2) (WE W σ)) hE s hI qx ?_)) fun us s1 ⟨vs, H1, J1, r, q1⟩ => ⟨J1.kIn, ?_⟩) he hpl
  · intro vs ds G1 H1 I1 s1 t1 h1 r1 hS y dy ny nd dn
    have gd : G1 dy = none := t1.free nd
    have gy : G1 y = none := t1.free ny
    have ny2 : upd H1 dy (.own y) y = none := by rw [upd_ne (Ne.symm dn)]; exact ny
    have na : ∀ a, ¬ (I1.F a ∧ (a = y ∨ a = dy)) := fun a ha => ha.2.elim (fun e => h1.dom ha.1 (by rw [e]; exact ny)) (fun e => h1.dom ha.1 (by rw [e]; exact nd))
    have hd3 : Hd (I1.and (iIns X.K y C dy [])) G1 (upd (upd H1 dy (.own y)) y (.ins C dy [])) := by
      refine Hd.mk2 ((h1.newp nd).newp ny2) ⟨⟨by rw [upd_ne dn, upd_same], dn, [], upd_same, rfl⟩, fun a ha => ?_⟩ na
      rcases ha with e | e
      · subst e; exact gy
      · subst e; exact gd
    refine spD_at (ds := .adr y :: ds) (same_upd (same_upd t1 gd) gy) hd3 (.cons rfl r1) (hS y dy na) ?_ ?_
    · intro v d G' H' I' s3 t3 h3 r3 ⟨ed, pp⟩
      subst ed
      exact ⟨r3, q (.ref y) (.adr y) G' H' I' (s1.trans s3) t3 h3 rfl pp⟩
    · exact fun C' dd fs l G' H' I' s3 t3 h3 r3 hx pp => qx C' dd fs l G' H' I' (s1.trans s3) t3 h3 r3 hx pp
  · have hq := q1 (s1.heap.objs.size + 1) s1.heap.objs.size (J1.hok.fresh (Nat.le_succ _)) (J1.hok.fresh (Nat.le_refl _)) (Nat.ne_of_lt (Nat.lt_succ_self _))
    have J2 := Inv.made (C := C) J1
    have r2 : Vals (V.ref (s1.heap.objs.size + 1) :: vs) (Value.ref (s1.heap.objs.size + 1) :: us) := .cons rfl r
    have hl : ((Value.ref (s1.heap.objs.size + 1) :: us) ++ []).length = ps.length := by
      rw [List.append_nil, ← r2.length]
      exact F.len _ _ _ _ hq
    refine wpAny_call (make_map (f := g) J1.kIn M.makes M.init (beq_iff_eq.mp M.fn) (codeAny_mono (F.run _ X.stack _ _ ⟨Value.ref (s1.heap.objs.size + 1) :: us, []⟩ ((Value.ref (s1.heap.objs.size + 1) :: us) ++ []) _ _ (WE W σ) (hr.make C us [])
      (J2.env0.make C us []) (hb _ (Value.ref (s1.heap.objs.size + 1) :: us) J2.kIn hl) (by rw [List.append_nil]; exact r2) hq) fun r s' hq' => ?_))
    cases r with
    | error e => exact passAt tk σ pins _ _ e s' J2 hq'
    | ok fl =>
      cases fl with
      | ret u =>
        obtain ⟨v, H', J4, rv', ev, q3⟩ := J2.after hq'
        subst ev
        exact ⟨rv', ⟨V.ref (s1.heap.objs.size + 1), H', J4, rfl, q3⟩⟩
      | next => exact False.elim hq'
      | brk => exact False.elim hq'
      | cont => exact False.elim hq'⟩
end
end DL
set_option Elab.async false
set_option linter.all false
set_option maxRecDepth 100000
set_option maxHeartbeats 4000000
namespace L2
open PySem PySem.Spec PyProof.Rows
/-! ### sum of a tuple of ints -/
section
variable {prog : Program} {w : World} {A : Around} {E : Value → Shared → Prop} {s : Shared} {l : Addr} {its : List Value} {ns : List Int} {Q : Value → Shared → Prop}
theorem sum_tupleG {xs : Array (Int × Tok)} (hh : A.handled = none) (hl : s.heap.IsTuple l (intItems xs))
    (h : ∀ h' tk t', (∀ b o, s.heap.get? b = some o → h'.get? b = some o) → Q (.int (preSum (numAt xs) xs.size) t') { s with heap := h', toks := tk }) :
    wpAny (model prog w) A (call (.builtin "sum") [.ref l]) Q E s := by
  have hlt : l < s.heap.objs.size := by obtain ⟨_, e, _⟩ := hl; exact Heap.lt_size e
  refine call_sum_walkG (wpAny_pyIter_tuple hl ?_)
  refine ⟨_, _, _, _, _, _, numAt xs, rfl, Walks.tuple (A := A.in1) hh _ l (Nat.ne_of_lt hlt) (intItems xs), ⟨⟨_, Heap.get?_push_size _ rfl, rfl, rfl⟩, hl.push _⟩, fun b hb => ?_, (fun _ _ => intItems_at), fun h' tk t' hk => ?_⟩
  · show b < (s.heap.push _).objs.size
    rw [Heap.size_push]
    rcases List.mem_cons.mp hb with rfl | hb
    · exact Nat.lt_succ_self _
    · rcases List.mem_cons.mp hb with rfl | hb
      · exact Nat.lt_succ_of_lt hlt
      · cases hb
  · have := h h' tk t' fun b o e => hk b o (by
      intro hb
      exact absurd (Heap.lt_size e) ((List.mem_singleton.mp hb) ▸ Nat.lt_irrefl _)) (Heap.get?_push_of_some _ e)
    simpa [intItems] using this
theorem sum_rawT (hh : A.handled = none) (hl : s.heap.IsTuple l its.toArray) (hi : IntsAre its ns)
    (h : ∀ h' tk t', (∀ b o, s.heap.get? b = some o → h'.get? b = some o) → Q (.int ns.sum t') { s with heap := h', toks := tk }) : wpAny (model prog w) A (call (.builtin "sum") [.ref l]) Q E s := by
  obtain ⟨xs, e⟩ := hi.allInts.items
  have hn : numsOf (intItems xs).toList = ns := by rw [← e]; exact hi.numsOf
  rw [nums_intItems] at hn
  rw [e] at hl
  refine sum_tupleG hh hl fun h' tk t' hk => ?_
  have := h h' tk t' hk
  rw [preSum_eq, List.take_of_length_le (by simp), hn]; exact this
end
section
variable {X : Cx}
def rSumT (K : PySem.W.Frag) : List V → Hp → VK → Prop := fun vs H Q => ∃ (a : Addr) (ns : List Int), vs = [V.ref a] ∧ SqT K H a (ns.map V.int) ∧ Q (.int ns.sum) H
theorem cr_sumT (hc : X.calm = true) : CallR X (.builtin "sum") (rSumT X.K) := by
  intro pins s σ H vs us Q I r h
  obtain ⟨a, ns, rfl, hs, q⟩ := h
  obtain ⟨its, rv, hl, _⟩ := I.tuple hs
  rw [Vals.ref1 r]
  exact sum_rawT (I.ok.hd hc) hl rv.ints fun h' tk t' hk => ⟨.int _, H, I.kept hk, ⟨_, rfl⟩, q⟩
/-- t.index(x), texts -/
def rTIndex (K : PySem.W.Frag) : V → List V → Hp → VK → Prop := fun x xs H Q => ∃ (a : Addr) (ys : List Str) (k : Str), x = V.ref a ∧ xs = [.str k] ∧ SqT K H a (ys.map V.str) ∧ k ∈ ys ∧ Q (.int (ys.idxOf k : Nat)) H
theorem mt_tindex : MtR X "tuple.index" (rTIndex X.K) := by
  intro pins s σ H x xs v us Q I rx rxs h
  obtain ⟨a, ys, k, rfl, rfl, hs, hk, q⟩ := h
  cases rx
  obtain ⟨u, rfl, ru⟩ := rxs.one
  obtain ⟨t, rfl⟩ := (show ∃ t, u = Value.str k t from ru)
  obtain ⟨its, rv, hl, _⟩ := I.tuple hs
  exact PySem.SeqAt.tuple_index_strs hl (strs_of_vals rv) hk ⟨.int _, H, I.tok _, ⟨_, rfl⟩, q⟩
/-- l.count(x), by data -/
def rLCount (K : PySem.W.Frag) : V → List V → Hp → VK → Prop := fun x xs H Q => ∃ (a : Addr) (ys : List Str) (k : Str), x = V.ref a ∧ xs = [.str k] ∧ SqL K H a (ys.map V.str) ∧ Q (.int (ys.count k : Nat)) H
theorem mt_lcountS : MtR X "list.count" (rLCount X.K) := by
  intro pins s σ H x xs v us Q I rx rxs h
  obtain ⟨a, ys, k, rfl, rfl, hs, q⟩ := h
  cases rx
  obtain ⟨u, rfl, ru⟩ := rxs.one
  obtain ⟨t, rfl⟩ := (show ∃ t, u = Value.str k t from ru)
  obtain ⟨its, rv, ⟨⟨cls, dd, data, sl⟩, n, ho, hc, hdn, hd⟩, hlen⟩ := I.list hs
  simp only at hc hd
  subst hc hd
  have hi := strs_of_vals rv
  refine call_meets PySem.F.slot_list_count ⟨_, ho, rfl⟩ PySem.F.entry_list_count (PySem.F.args_list_count_2 _ _)
    (SeqAt.list_countAt a its.toArray n dd sl (.str k t) (isStrOf k)) ⟨ho, fun y hy => (eq_isStrOf k t hi y (by simpa using hy)).at _ _, ?_⟩
  have ec : its.toArray.toList.countP (isStrOf k) = ys.count k := by
    show its.countP _ = _
    clear hs q rv ho hlen hdn
    induction hi with
    | nil => rfl
    | cons y t' r ih =>
      rw [List.countP_cons, List.count_cons, ih]
      rfl
  refine ⟨.int (ys.count k : Nat), H, I.tok _, ⟨s.toks, ?_⟩, q⟩
  show Value.int ((its.toArray.toList.countP (isStrOf k) : Nat) : Int) s.toks = Value.int ((ys.count k : Nat) : Int) s.toks
  rw [ec]
/-- t * 1 -/
theorem tuple_mul1 (l : Addr) (items : Array Value) (n : Nat) (dd : Option Addr) (sl : Array (Option Value)) (u : Tok) :
    Meets (Builtin.«tuple.__mul__» ⟨[.ref l, .int 1 u], []⟩) (fun _ R s => s.heap.get? l = some { cls := .type "tuple", dict := dd, data := .seq items n, slots := sl } ∧ R (.ok (.ret (Value.ref l))) s) :=
  .of_wp fun prog w A R s h => by
    obtain ⟨hp, g, d, tk, os⟩ := s
    obtain ⟨hl, h⟩ := h
    have f1 := AutoSeq1.idx_int
    wp_walk using wpAny_loadPart' hl
    repeat (first
      | (refine wpAny_ite_false (by decide) ?_; wp_walk using wpAny_loadPart' hl)
      | (refine wpAny_ite_true (by simp) ?_; wp_walk using wpAny_loadPart' hl))
    exact ⟨_, rfl, h⟩
theorem op_rep1 : OpR X (binaryOp .Mult) (fun x y H Q => ∃ l xs, x = .ref l ∧ y = .int 1 ∧ SqT X.K H l xs ∧ Q (.ref l) H) := by
  intro pins s σ H x y v u Q I rx ry h
  obtain ⟨l, xs, rfl, rfl, hT, q⟩ := h
  cases rx
  obtain ⟨t, rfl⟩ := ry
  obtain ⟨its, r, ⟨⟨cls, dd, data, sl⟩, ho, hc, n, hd⟩, hs⟩ := I.tuple hT
  simp only at hc hd
  subst hc hd
  exact wpAny_binaryOp_repeat_ref (T := "tuple") (U := "int") (by decide) ⟨_, ho, rfl⟩ (fun s' => typeIs_int s' 1 t) noFill_tuple_mul F.fills_int_mul F.slot_int_rmul repeat_tuple F.slot_int_index.lookup
    (call_meets F.slot_int_rmul (typeIs_int s 1 t) F.entry_int_rmul (F.args_int_rmul_2 _ _) (int_rmul_tuple 1 t l its.toArray n dd sl)
      ⟨ho, rfl, ⟨_, ho, rfl⟩, call_meets F.slot_tuple_mul ⟨_, ho, rfl⟩ F.entry_tuple_mul (F.args_tuple_mul_2 _ _) (tuple_mul1 l its.toArray n dd sl t) ⟨ho, ⟨.ref l, H, I, rfl, q⟩⟩⟩)
end
end L2
namespace DL
open PySem PySem.Spec PyProof.Rows L2
section
variable {X : Cx} {W : WX} {R : Rx X.K} {a b o e : Expr} {es : List Expr} {δ : DEnv} {I : Iv X.K} {P : D → Iv X.K → Prop} {pos p apos ep : Pos} {d x y z : D} {ds : List D} {κ : Ko X.K} {ns : List Int} {ss : List Str} {k : Str} {q : Addr} {n : Nat}
theorem repsIntT {K : PySem.W.Frag} {G : Hp} {vs : List V} (r : Reps K G (ns.map D.int) vs) : vs = ns.map V.int := repsInt' r
/-- sum(t) -/
theorem pn_sumT {K : PySem.W.Frag} {I : Iv K} : PN K I (rSumT K) [.tup (ns.map D.int)] (.int ns.sum) := fun P p G H vs Q s hI ⟨v, r, e1, ⟨a, xs, ea, e2, e3⟩, er⟩ q => by
  have e4 := repsInt' e3
  subst e4
  rw [e1, ea, show r = [] from er]
  exact ⟨a, ns, rfl, sqT_mono s e2, q _ (.int ns.sum) G H _ (Same.refl G) s hI rfl p⟩
theorem reps_rep {K : PySem.W.Frag} {G : Hp} {vs : List V} (r : Reps K G ds vs) : ∀ n : Nat, Reps K G (List.replicate n ds).flatten (List.replicate n vs).flatten
  | 0 => rfl
  | n + 1 => by rw [List.replicate_succ, List.replicate_succ, List.flatten_cons, List.flatten_cons]; exact r.append (reps_rep r n)
/-- (x,) * n -/
theorem p2_rep {K : PySem.W.Frag} {I : Iv K} (hn : 2 ≤ n ∧ n ≤ 1000) (hne : ds ≠ []) (hl : ds.length ≤ 1000) : P2 K I (rRepT K) (.tup ds) (.int n) (.tup (List.replicate n ds).flatten) := fun P p G H v w Q s hI ⟨a, vs, ea, e2, e3⟩ r2 q => by
  refine ⟨a, n, vs, ea, r2, sqT_mono s e2, fun e => hne ?_, by omega, by omega, by rw [e3.length]; exact hl, fun l hp => ?_⟩
  · rw [e] at e3
    have := e3.length
    exact List.length_eq_zero_iff.mp this.symm
  · have hg : G l = none := s.free hp
    have e4 : ((n : Int)).toNat = n := by omega
    rw [e4]
    exact q (.ref l) (.tup (List.replicate n ds).flatten) _ _ _ (Evl.Ex.new hg) (same_upd2 s) (hI.keep hp s) ⟨l, _, rfl, SqT.of upd_same, (reps_rep e3 n).mono (Evl.Ex.new hg)⟩ p
theorem pv_rep (ha : PV X I a δ (.tup ds)) (hb : PV X I b δ (.int n)) (hn : 1 ≤ n ∧ n ≤ 1000) (hne : ds ≠ []) (hl : ds.length ≤ 1000) : PV X I (.BinOp a .Mult b pos) δ (.tup (List.replicate n ds).flatten) := by
  by_cases h1 : n = 1
  · subst h1
    refine pv_op (op_rep1 (X := X)) ha hb fun P p G H v w Q s hI ⟨c, vs, ea, e2, e3⟩ r2 q => ⟨c, vs, ea, r2, sqT_mono s e2, q (.ref c) (.tup (List.replicate 1 ds).flatten) G H I (Same.refl G) s hI (by rw [show (List.replicate 1 ds).flatten = ds by simp]; exact ⟨c, vs, rfl, e2, e3⟩) p⟩
  · exact pv_op (op_repT (X := X)) ha hb (p2_rep ⟨by omega, hn.2⟩ hne hl)
end
end DL
set_option Elab.async false
set_option linter.all false
set_option maxRecDepth 100000
set_option maxHeartbeats 4000000
namespace L2
open PySem PySem.Spec PyProof.Rows
section
variable {X : Cx} {a b o e : Expr} {es : List Expr} {ta tb to : TE} {t : TA} {pos cpos apos : Pos} {name : Str} {id : String} {r : V → List V → Hp → VK → Prop}
/-- the call of a method of a tuple whose object is known -/
def tBMT (r : V → List V → Hp → VK → Prop) (to : TE) (t : TA) : TE := fun σ H Q => to σ H fun x H1 => (∃ a ob ys, x = .ref a ∧ H1 a = some (.frz ob (.tup ys)) ∧ ob.dict = none) ∧ t σ H1 fun xs H2 => r x xs H2 Q
theorem pe_bmT (pa : PlainAttrs "tuple") (slot : Slot "tuple" name id) (hty : typeOf (.builtin id) = pure (.type "method_descriptor")) (hm : MtR X id r) (ho : PE X o to) (ha : PA X (e :: es) t)
    (hbase : attributeBase o name X.env (eval o X.env) = eval o X.env := by rfl)
    (hfew : ((backTo cpos (starEach (e :: es) X.env)).all (fun x => !x.1) && (backToKw cpos (keywordEach [] X.env)).all (fun x => x.1.isSome)
      && decide ((e :: es).length + ([] : List Keyword).length + (if ([] : List Keyword).isEmpty then 0 else 1) < 30)) = true := by rfl)
    (hline : (apos.endLine == cpos.line) = true := by rfl) (hs : starEach (e :: es) X.env = (false, eval e X.env) :: starEach es X.env := by rfl) (hplain : (backTo cpos (starEach es X.env)).any (·.1) = false := by rfl) :
    PE X (.Call (.Attribute o name apos) (e :: es) [] cpos) (tBMT r to t) := by
  refine ⟨fun pins s σ H Q I h => ?_⟩
  refine wpAny_Call_method_late hbase hfew hline rfl (thn (ho.run pins s σ H _ I h) fun v s1 ⟨x, H1, I1, r1, ⟨a, ob, ys, ex, hx, hd⟩, q1⟩ => ?_)
  have r1' := r1
  subst ex
  obtain rfl : v = Value.ref a := r1
  obtain ⟨e1, e2⟩ := I1.hok a _ hx
  obtain ⟨_, its, _, ⟨o', ho', hc, _⟩⟩ := e2
  have eo : o' = ob := by rw [e1] at ho'; exact (Option.some.inj ho').symm
  subst eo
  refine ⟨"tuple", id, pa, slot, hty, ⟨_, e1, hc⟩, (fun a' ea => by cases ea; exact ⟨_, e1, hd⟩), ?_⟩
  have hA := ha.run cpos pins s1 σ H1 _ I1 q1
  rw [hs] at hA ⊢
  refine Calls.callWith_builtin (by show (false || (backTo cpos (starEach es X.env)).any (·.1)) = false; rw [hplain] <;> rfl) (Calls.evalArgs_plain ?_)
  exact thn hA fun us s2 ⟨vs, H2, I2, r2, q2⟩ => hm pins s2 σ H2 _ vs _ us Q I2 r1' r2 q2
end
end L2
namespace DL
open PySem PySem.Spec PyProof.Rows L2
section
variable {X : Cx} {W : WX} {R : Rx X.K} {a b o e : Expr} {es : List Expr} {δ : DEnv} {I : Iv X.K} {P : D → Iv X.K → Prop} {pos p apos ep : Pos} {d x y z : D} {ds : List D} {κ : Ko X.K} {ns : List Int} {ss : List Str} {k : Str} {q : Addr} {n : Nat}
/-- o.index(e), a tuple of texts -/
theorem pv_tindex (ho : PV X I o δ (.tub (ss.map D.str))) (he : PV X I e δ (.str k)) (hk : k ∈ ss)
    (hbase : attributeBase o "index" X.env (eval o X.env) = eval o X.env := by rfl)
    (hfew : ((backTo pos (starEach [e] X.env)).all (fun x => !x.1) && (backToKw pos (keywordEach [] X.env)).all (fun x => x.1.isSome) && decide ([e].length + ([] : List Keyword).length + (if ([] : List Keyword).isEmpty then 0 else 1) < 30)) = true := by rfl)
    (hline : (apos.endLine == pos.line) = true := by rfl) (hst : starEach [e] X.env = (false, eval e X.env) :: starEach [] X.env := by rfl) (hpl : (backTo pos (starEach [] X.env)).any (·.1) = false := by rfl) : PV X I (.Call (.Attribute o "index" apos) [e] [] pos) δ (.int (ss.idxOf k : Nat)) := fun W R P pp σ G H Q hE s hI qx qq =>
  PE.wp (pe_bmT PySem.F.plainAttrs_tuple PySem.F.slot_tuple_index PySem.F.type_tuple_index mt_tindex peC (pa_cons peC pa_nil hst) hbase hfew hline hst hpl) (ho W R (fun z I1 => z = .tub (ss.map D.str) ∧ I1 = I) ⟨rfl, rfl⟩ σ G H _ hE s hI qx fun v d1 G1 H1 I1 s1 t1 h1 r1 ⟨ed, ei⟩ => by
    subst ed ei
    obtain ⟨c, ob, vs, ev, e2, hob, e3⟩ := r1
    subst ev
    have e4 := repsStr e3
    subst e4
    refine ⟨⟨c, ob, _, rfl, t1 _ _ e2, hob⟩, ?_⟩
    refine he W R (fun z J => z = .str k ∧ J = I1) ⟨rfl, rfl⟩ σ G1 H1 _ (hE.mono s1) t1 h1 (qx.mono s1) fun v2 d2 G2 H2 I2 s2 t2 h2 r2 ⟨ed2, ei2⟩ => ?_
    subst ed2 ei2
    exact ⟨c, ss, k, rfl, by rw [show v2 = .str k from r2], .inl (.inr ⟨ob, t2 _ _ (s2 _ _ e2)⟩), hk, qq _ (.int _) G2 H2 _ (s1.trans s2) t2 h2 rfl pp⟩)
/-- o.count(e), a list of texts that may change -/
theorem pv_lcount (c : Rc X.K) (ho : PV X I o δ (.adr q)) (he : PV X I e δ (.str k)) (eI : I = c.fill (iLst X.K q (ss.map D.str)) := by rfl)
    (hbase : attributeBase o "count" X.env (eval o X.env) = eval o X.env := by rfl)
    (hfew : ((backTo pos (starEach [e] X.env)).all (fun x => !x.1) && (backToKw pos (keywordEach [] X.env)).all (fun x => x.1.isSome) && decide ([e].length + ([] : List Keyword).length + (if ([] : List Keyword).isEmpty then 0 else 1) < 30)) = true := by rfl)
    (hline : (apos.endLine == pos.line) = true := by rfl) (hst : starEach [e] X.env = (false, eval e X.env) :: starEach [] X.env := by rfl) (hpl : (backTo pos (starEach [] X.env)).any (·.1) = false := by rfl) : PV X I (.Call (.Attribute o "count" apos) [e] [] pos) δ (.int (ss.count k : Nat)) := fun W R P pp σ G H Q hE s hI qx qq =>
  PE.wp (pe_bm PySem.F.plainAttrs_list PySem.F.slot_list_count PySem.F.type_list_count mt_lcountS peC (pa_cons peC pa_nil hst) hbase hfew hline hst hpl) (ho W R (fun z I1 => z = .adr q ∧ I1 = I) ⟨rfl, rfl⟩ σ G H _ hE s hI qx fun v d1 G1 H1 I1 s1 t1 h1 r1 ⟨ed, ei⟩ => by
    subst ed ei
    obtain rfl : v = .ref q := r1
    refine ⟨?_, ?_⟩
    · subst eI
      obtain ⟨vs, hp, rv, gp⟩ := h1.lst
      exact .inl ⟨rfl, _, .inl (.inl hp)⟩
    · refine he W R (fun z J => z = .str k ∧ J = I1) ⟨rfl, rfl⟩ σ G1 H1 _ (hE.mono s1) t1 h1 (qx.mono s1) fun v2 d2 G2 H2 I2 s2 t2 h2 r2 ⟨ed2, ei2⟩ => ?_
      subst ed2 ei2
      have h3 := h2
      subst eI
      obtain ⟨vs, hp, rv, gp⟩ := h2.lst
      have e4 := repsStr rv
      subst e4
      exact ⟨q, ss, k, rfl, by rw [show v2 = .str k from r2], SqL.of hp, qq _ (.int _) G2 H2 _ (s1.trans s2) t2 h3 rfl pp⟩)
/-- o.insert(i, e) -/
theorem s_insert {i : Expr} (c : Rc X.K) (ho : PV X I o δ (.adr q)) (hI0 : I = c.fill (iLst X.K q ds)) (hz : ds.length < 1000000)
    (h : EvX X W (κ.r δ) i δ I fun z I1 => ∃ j : Nat, z = .int j ∧ j < 1000000 ∧ I1 = c.fill (iLst X.K q ds) ∧ PV X I1 e δ d ∧ κ.nx δ (c.fill (iLst X.K q (ds.take j ++ [d] ++ ds.drop j))))
    (hbase : attributeBase o "insert" X.env (eval o X.env) = eval o X.env := by rfl)
    (hfew : ((backTo pos (starEach [i, e] X.env)).all (fun x => !x.1) && (backToKw pos (keywordEach [] X.env)).all (fun x => x.1.isSome) && decide ([i, e].length + ([] : List Keyword).length + (if ([] : List Keyword).isEmpty then 0 else 1) < 30)) = true := by rfl)
    (hline : (apos.endLine == pos.line) = true := by rfl) (hst : starEach [i, e] X.env = (false, eval i X.env) :: starEach [e] X.env := by rfl) (hst2 : starEach [e] X.env = (false, eval e X.env) :: starEach [] X.env := by rfl) (hpl : (backTo pos (starEach [e] X.env)).any (·.1) = false := by rfl)
    (hs : swapsWith (.Call (.Attribute o "insert" apos) [i, e] [] pos) none ep.line X.env = pure false := by rfl) : S1 X W (.Expr (.Call (.Attribute o "insert" apos) [i, e] [] pos) ep) δ I κ := fun σ G H E hE s hI kk =>
  PS.wp (ps_expr (pe_bm PySem.F.plainAttrs_list PySem.F.slot_list_insert PySem.F.type_list_insert mt_insert peC (pa_cons peC (pa_cons peC pa_nil hst2) hst) hbase hfew hline hst hpl) hs) (ho W (κ.r δ) (fun z I1 => z = .adr q ∧ I1 = I) ⟨rfl, rfl⟩ σ G H _ hE s hI (kk.kx hE) fun v d1 G1 H1 I1 s1 t1 h1 r1 ⟨ed, ei⟩ => by
    subst ed ei hI0
    obtain ⟨vs, hp, rv, gp⟩ := h1.lst
    obtain rfl : v = .ref q := r1
    refine ⟨.inl ⟨rfl, _, .inl (.inl hp)⟩, ?_⟩
    refine h σ G1 H1 _ (hE.mono s1) t1 h1 ((kk.kx hE).mono s1) fun w d2 G2 H2 I2 s2 t2 h2 r2 ⟨j, ez, hj, ei, he, nx⟩ => ?_
    subst ez ei
    refine he W (κ.r δ) (fun z J => z = d ∧ J = c.fill (iLst X.K q ds)) ⟨rfl, rfl⟩ σ G2 H2 _ (hE.mono (s1.trans s2)) t2 h2 ((kk.kx hE).mono (s1.trans s2)) fun u d3 G3 H3 I3 s3 t3 h3 r3 ⟨ed3, ei3⟩ => ?_
    subst ed3 ei3
    obtain ⟨vs2, hp2, rv2, gp2⟩ := h3.lst
    refine ⟨q, vs2, j, u, rfl, by rw [show w = .int j from r2], hp2, by rw [rv2.length, sizeLine_eq]; omega, by omega, by omega, ?_⟩
    rw [show ((j : Int)).toNat = j by omega]
    exact kk.nx δ σ G3 _ _ ((s1.trans s2).trans s3) (same_upd t3 gp2) (h3.lstSet (((rv2.take j).append (Reps.one r3)).append (rv2.drop j))) (hE.mono ((s1.trans s2).trans s3)) nx)
/-- (.., *e, ..) -/
theorem va_star (he : PV X I e δ (.tup ds)) {fs : List D} (h : PVA X I es δ fs) (hs : starEach (.Starred e p :: es) X.env = (true, eval e X.env) :: starEach es X.env := by rfl) : PVA X I (.Starred e p :: es) δ (ds ++ fs) := fun W R P pp σ G H Q hE s hI qx qq => PA.wp (StX.pa_star peC paC hs)
  (he W R (fun z J => z = .tup ds ∧ J = I) ⟨rfl, rfl⟩ σ G H _ hE s hI qx fun v d1 G1 H1 I1 s1 t1 h1 r1 ⟨ed, ei⟩ => by
    subst ed
    subst ei
    obtain ⟨c, vs, ev, e2, e3⟩ := r1
    refine ⟨c, vs, ev, .inl (sqT_mono t1 e2), ?_⟩
    refine h W R (fun zs J => zs = fs ∧ J = I1) ⟨rfl, rfl⟩ σ G1 H1 _ (hE.mono s1) t1 h1 (qx.mono s1) fun ws d2 G2 H2 I2 s2 t2 h2 r2 ⟨ed2, ei2⟩ => ?_
    subst ed2 ei2
    exact qq _ _ G2 H2 _ (s1.trans s2) t2 h2 ((e3.mono s2).append r2) pp)
/-- a list in slot j that changes no more from here -/
theorem sx_freezeL {sts : List Stmt} {j : Nat} (hd : δ[j]? = some (some (.adr q))) (h : SX X W sts (δ.set j (some (.lst ds))) I κ) : SX X W sts δ (I.and (iLst X.K q ds)) κ := fun σ G H E hE s hI kk => by
  obtain ⟨G', s', t', h', r'⟩ := freeze_lst s hI
  refine h σ G' H E ?_ t' h' (kk.mono s')
  obtain ⟨v, hv, rv⟩ := hE.2 j _ hd
  have ev : v = .ref q := rv
  subst ev
  have e2 := (hE.mono s').set (i := j) r'
  have e3 : σ.set j (some (.ref q)) = σ := by
    apply List.ext_getElem?
    intro i
    by_cases hj : j = i
    · subst hj
      rw [List.getElem?_set_self (List.getElem?_eq_some_iff.mp hv).1, hv]
    · rw [List.getElem?_set_ne hj]
  rwa [e3] at e2
end
end DL
set_option Elab.async false
set_option linter.all false
set_option maxRecDepth 100000
set_option maxHeartbeats 4000000
namespace DL
open PySem PySem.Spec PyProof.Rows L2
section
variable {X : Cx} {W : WX} {R : Rx X.K} {elt tg iter tg1 iter1 e a : Expr} {scope : Scope} {δ : DEnv} {I : Iv X.K} {P : D → Iv X.K → Prop} {pos p : Pos} {κ : Ko X.K} {d z : D} {ds : List D}
theorem flat_take {α β : Type} {xs : List α} {f : α → List β} {i : Nat} {x : α} (h : xs[i]? = some x) : (xs.take (i + 1)).flatMap f = (xs.take i).flatMap f ++ f x := by
  rw [take_snoc h, List.flatMap_append]; simp
/-- [f x y for x in xs for y in ys x] -/
theorem pv_lc2 {α β : Type} {xs : List α} {g : α → D} {ys : α → List β} {g1 : β → D} (f : α → β → D) (own : List (Str × Nat)) (vs1 : List Nat) (δ1 : α → DEnv) (δ2 : α → β → DEnv) (hi : PVI X I tg iter δ (xs.map g)) (hz : (xs.flatMap fun x => (ys x).map (f x)).length ≤ 1000000)
    (hb : ∀ (x : α) (s : Shared) (H : Hp) (C : Addr) (cl : List (Str × Addr)) (fp : List Addr), BindD (X.blk s H scope (compEnvC scope cl C X.env) fp) tg (g x) (wipeD δ (own.map (·.2))) (δ1 x) (own.map (·.2)))
    (hi1 : ∀ x ∈ xs, ∀ (J : Iv X.K) (s : Shared) (H : Hp) (C : Addr) (cl : List (Str × Addr)) (fp : List Addr), PVI (X.blk s H scope (compEnvC scope cl C X.env) fp) (I.and J) tg1 iter1 (δ1 x) ((ys x).map g1))
    (hb1 : ∀ (x : α) (y : β) (s : Shared) (H : Hp) (C : Addr) (cl : List (Str × Addr)) (fp : List Addr), BindD (X.blk s H scope (compEnvC scope cl C X.env) fp) tg1 (g1 y) (wipeD (δ1 x) vs1) (δ2 x y) vs1)
    (he : ∀ x ∈ xs, ∀ y ∈ ys x, ∀ (J : Iv X.K) (s : Shared) (H : Hp) (C : Addr) (cl : List (Str × Addr)) (fp : List Addr), PV (X.blk s H scope (compEnvC scope cl C X.env) fp) (I.and J) elt (δ2 x y) (f x y))
    (hN : X.N.Nodup := by assumption) (ok : blkC X.N X.env.scope scope own = true := by rfl) (hv : ∀ i ∈ vs1, i ∈ own.map (·.2) := by decide)
    (hc : X.calm = true := by rfl) (hs : ∀ x, foldedSetIterable iter X.env x = pure x := by intro _; rfl) (hs1 : ∀ env x, foldedSetIterable iter1 env x = pure x := by intro _ _; rfl) :
    PV X I (.ListComp elt [⟨tg, iter, [], 0⟩, ⟨tg1, iter1, [], 0⟩] scope pos) δ (.lst (xs.flatMap fun x => (ys x).map (f x))) := fun W R P pp σ G H Q hE s hI qx q => by
  refine PE.wp (pe_lc2 (wi := wpI X tg iter) (g := fun v σ H Q => ∀ s0 H0 C cl fp, wpG (X.blk s0 H0 scope (compEnvC scope cl C X.env) fp) tg v σ H Q) (tt := fun σ H Q => ∀ s0 H0 C cl fp, wpTs (X.blk s0 H0 scope (compEnvC scope cl C X.env) fp) [] σ H Q)
    (wi1 := fun σ H RR => ∀ s0 H0 C cl fp, wpI (X.blk s0 H0 scope (compEnvC scope cl C X.env) fp) tg1 iter1 σ H RR) (g1 := fun v σ H Q => ∀ s0 H0 C cl fp, wpG (X.blk s0 H0 scope (compEnvC scope cl C X.env) fp) tg1 v σ H Q) (tt1 := fun σ H Q => ∀ s0 H0 C cl fp, wpTs (X.blk s0 H0 scope (compEnvC scope cl C X.env) fp) [] σ H Q)
    (te := fun σ H Q => ∀ s0 H0 C cl fp, wpE (X.blk s0 H0 scope (compEnvC scope cl C X.env) fp) elt σ H Q) hc hN piC (blkOk_by ok) hv (fun s0 H0 C cl fp => ⟨fun pins s σ H v u Q J r k => (k s0 H0 C cl fp).run pins s u J r⟩) (fun s0 H0 C cl fp => ⟨fun pins s σ H Q J k => (k s0 H0 C cl fp).run pins s J⟩) (fun s0 H0 C cl fp => ⟨fun pins s σ H Q J k => (k s0 H0 C cl fp).run pins s J⟩)
    (fun s0 H0 C cl fp => ⟨fun pins s σ H v u Q J r k => (k s0 H0 C cl fp).run pins s u J r⟩) (fun s0 H0 C cl fp => ⟨fun pins s σ H Q J k => (k s0 H0 C cl fp).run pins s J⟩) (fun s0 H0 C cl fp => ⟨fun pins s σ H Q J k => (k s0 H0 C cl fp).run pins s J⟩) hs hs1) ?_
  refine hi W R (fun ds J => ds = xs.map g ∧ J = I) ⟨rfl, rfl⟩ σ G H _ hE s hI qx fun J ds G1 H1 I1 s1 t1 h1 wk ⟨eds, eI⟩ D hD => ?_
  subst eds eI
  have gD : G1 D = none := t1.free hD
  have apart : ∀ a, ¬ (I1.F a ∧ a = D) := fun a ha => h1.dom ha.1 (by rw [ha.2]; exact hD)
  refine ⟨fun i m H' => m = xs.length - i ∧ i ≤ xs.length ∧ ∃ G', Same G1 G' ∧ Same G' H' ∧ Hd (I1.and (iLst X.K D ((xs.take i).flatMap fun x => (ys x).map (f x)))) G' H', ⟨_, rfl, Nat.zero_le _, G1, Same.refl _, same_upd t1 gD, ?_⟩, ?_⟩
  · exact Hd.mk2 (h1.newp hD) ⟨⟨_, upd_same, [], rfl, rfl⟩, fun a ha => by rw [show a = D from ha]; exact gD⟩ apart
  · rintro i m H' ⟨rfl, hile, G', s2, t2, hd2⟩
    by_cases hlt : i < xs.length
    · have hx : xs[i]? = some xs[i] := List.getElem?_eq_getElem hlt
      have hm : xs[i] ∈ xs := List.getElem_mem hlt
      generalize hxx : xs[i] = x at *
      refine .inr ⟨wk.go i G' H' s2 t2 (by rw [List.length_map]; exact hlt), fun H3 => ∃ G3, Same G1 G3 ∧ Same G3 H3 ∧ Hd (I1.and (iLst X.K D ((xs.take (i + 1)).flatMap fun x => (ys x).map (f x)))) G3 H3, fun H3 ⟨G3, q3, q4, q5⟩ => ⟨xs.length - (i + 1), by omega, rfl, hlt, G3, q3, q4, q5⟩, fun v H3 hyl => ?_⟩
      obtain ⟨G3, s3, t3, h3, _, d, hd, rd⟩ := wk.yld i G' H' _ v H3 s2 t2 hd2 (by rw [List.length_map]; exact hlt) hyl
      obtain ⟨x', hx', rfl⟩ := get_map hd
      rw [hx] at hx'
      cases hx'
      intro s0 H0 C cl fp
      refine hb x s0 H0 C cl fp v _ G3 H3 _ (((hE.mono s1).mono (s2.trans s3)).wipe _) t3 rd fun σ4 e4 ew => ⟨by rw [ew, wipe_wipe], ?_⟩
      intro s0 H0 C cl fp
      refine ets_nil (X := X.blk s0 H0 scope (compEnvC scope cl C X.env) fp) (W := W0) (R := R0) (PB := fun b J => b = true ∧ J = I1.and (iLst X.K D ((xs.take i).flatMap fun x => (ys x).map (f x)))) ⟨rfl, rfl⟩ σ4 G3 H3 _ e4 t3 h3 kx0 fun b G4 H4 I4 s4 t4 h4 ⟨eb, eI⟩ => ?_
      subst eb eI
      intro s0 H0 C cl fp
      refine hi1 x hm (iLst X.K D ((xs.take i).flatMap fun x => (ys x).map (f x))) s0 H0 C cl fp W0 R0 (fun ds J => ds = (ys x).map g1 ∧ J = I1.and (iLst X.K D ((xs.take i).flatMap fun x => (ys x).map (f x)))) ⟨rfl, rfl⟩ σ4 G4 H4 _ (e4.mono s4) t4 h4 kx0 fun J1 ds1 G5 H5 I5 s5 t5 h5 wk1 ⟨ed5, eI5⟩ => ?_
      subst ed5 eI5
      have e5 := (e4.mono s4).mono s5
      have flen : ∀ j, j ≤ (ys x).length → ((xs.take i).flatMap fun x => (ys x).map (f x)).length + j ≤ 1000000 := fun j hj => by
        have e6 := flat_take (f := fun x => (ys x).map (f x)) hx
        have e7 : ((xs.take (i + 1)).flatMap fun x => (ys x).map (f x)).length ≤ (xs.flatMap fun x => (ys x).map (f x)).length := by
          rw [← List.take_append_drop (i + 1) xs, List.flatMap_append, List.length_append, List.take_append_drop]; omega
        rw [e6, List.length_append, List.length_map] at e7
        omega
      refine ⟨fun j k H' => k = (ys x).length - j ∧ j ≤ (ys x).length ∧ ∃ G', Same G5 G' ∧ Same G' H' ∧ Hd (I1.and (iLst X.K D (((xs.take i).flatMap fun x => (ys x).map (f x)) ++ ((ys x).take j).map (f x)))) G' H', ⟨_, rfl, Nat.zero_le _, G5, Same.refl _, t5, by rw [List.take_zero, List.map_nil, List.append_nil]; exact h5⟩, ?_⟩
      rintro j k H6 ⟨rfl, hjle, G6, s6, t6, h6⟩
      by_cases hjt : j < (ys x).length
      · have hy : (ys x)[j]? = some (ys x)[j] := List.getElem?_eq_getElem hjt
        have hym : (ys x)[j] ∈ ys x := List.getElem_mem hjt
        generalize hyy : (ys x)[j] = y at *
        refine .inr ⟨wk1.go j G6 H6 s6 t6 (by rw [List.length_map]; exact hjt), fun H3 => ∃ G3, Same G5 G3 ∧ Same G3 H3 ∧ Hd (I1.and (iLst X.K D (((xs.take i).flatMap fun x => (ys x).map (f x)) ++ ((ys x).take (j + 1)).map (f x)))) G3 H3, fun H3 ⟨G3, q3, q4, q5⟩ => ⟨(ys x).length - (j + 1), by omega, rfl, hjt, G3, q3, q4, q5⟩, fun v2 H7 hyl2 => ?_⟩
        obtain ⟨G7, s7, t7, h7, _, d7, hd7, rd7⟩ := wk1.yld j G6 H6 _ v2 H7 s6 t6 h6 (by rw [List.length_map]; exact hjt) hyl2
        obtain ⟨y', hy', rfl⟩ := get_map hd7
        rw [hy] at hy'
        cases hy'
        intro s0 H0 C cl fp
        refine hb1 x y s0 H0 C cl fp v2 _ G7 H7 _ ((e5.mono (s6.trans s7)).wipe _) t7 rd7 fun σ8 e8 ew8 => ⟨by rw [ew8, wipe_wipe], ?_⟩
        intro s0 H0 C cl fp
        refine ets_nil (X := X.blk s0 H0 scope (compEnvC scope cl C X.env) fp) (W := W0) (R := R0) (PB := fun b J => b = true ∧ J = I1.and (iLst X.K D (((xs.take i).flatMap fun x => (ys x).map (f x)) ++ ((ys x).take j).map (f x)))) ⟨rfl, rfl⟩ σ8 G7 H7 _ e8 t7 h7 kx0 fun b8 G8 H8 I8 s8 t8 h8 ⟨eb8, eI8⟩ => ?_
        subst eb8 eI8
        intro s0 H0 C cl fp
        refine he x hm y hym (iLst X.K D (((xs.take i).flatMap fun x => (ys x).map (f x)) ++ ((ys x).take j).map (f x))) s0 H0 C cl fp W0 R0 (fun z J => z = f x y ∧ J = I1.and (iLst X.K D (((xs.take i).flatMap fun x => (ys x).map (f x)) ++ ((ys x).take j).map (f x)))) ⟨rfl, rfl⟩ σ8 G8 H8 _ (e8.mono s8) t8 h8 kx0 fun v9 d9 G9 H9 I9 s9 t9 h9 r9 ⟨ed9, eI9⟩ => ?_
        subst ed9 eI9
        obtain ⟨o, ho, vs, ev, rv⟩ := h9.right.ph
        subst ev
        have g9 : G9 D = none := h9.right.fr D rfl
        refine ⟨vs, ho, ?_, G9, ((s6.trans s7).trans s8).trans s9, same_upd t9 g9, ?_⟩
        · have := flen j hjle
          rw [rv.length, sizeLine_eq, List.length_append, List.length_map, List.length_take]; omega
        · have e10 : ((xs.take i).flatMap fun x => (ys x).map (f x)) ++ ((ys x).take (j + 1)).map (f x) = (((xs.take i).flatMap fun x => (ys x).map (f x)) ++ ((ys x).take j).map (f x)) ++ [f x y] := by
            rw [take_snoc hy, List.map_append, List.append_assoc]; rfl
          rw [e10]
          exact Hd.mk2 (h9.left.chg fun hf => apart D ⟨hf, rfl⟩) ⟨⟨_, upd_same, _, rfl, rv.append (Reps.one r9)⟩, h9.right.fr⟩ apart
      · have ej : j = (ys x).length := by omega
        subst ej
        refine .inl ⟨by have := wk1.stop G6 H6 s6 t6; rwa [List.length_map] at this, G6, ((s2.trans s3).trans s4).trans (s5.trans s6), t6, ?_⟩
        rw [flat_take hx]
        rw [List.take_length] at h6
        exact h6
    · have ei : i = xs.length := by omega
      subst ei
      obtain ⟨o, ho, vs, ev, rv⟩ := hd2.right.ph
      subst ev
      have g5 : G' D = none := hd2.right.fr D rfl
      rw [List.take_length] at rv
      refine .inl ⟨by have := wk.stop G' H' s2 t2; rwa [List.length_map] at this, q (.ref D) (.lst (xs.flatMap fun x => (ys x).map (f x))) (upd G' D (.lst vs)) H' I1 ((s1.trans s2).trans (Evl.Ex.new g5)) (same_freeze t2 ho) ?_ ⟨D, vs, rfl, upd_same, rv.mono (Evl.Ex.new g5)⟩ pp⟩
      exact ⟨I1.loc G' _ H' H' (Evl.Ex.new g5) (fun _ _ => rfl) hd2.left.ph, fun a ha => by rw [upd_ne fun e => apart a ⟨ha, e⟩]; exact hd2.left.fr a ha⟩
end
end DL
set_option Elab.async false
set_option linter.all false
set_option maxRecDepth 100000
set_option maxHeartbeats 4000000
namespace DL
open PySem PySem.Spec PyProof.Rows L2
section
variable {X : Cx} {W : WX} {R : Rx X.K} {a b o e : Expr} {es : List Expr} {δ : DEnv} {I : Iv X.K} {P : D → Iv X.K → Prop} {pos p : Pos} {κ : Ko X.K} {d z : D} {ds : List D} {x' : Str} {n m : Int}
/-- x += e, ints -/
theorem s_augP (i : Nat) (hd : δ[i]? = some (some (.int n))) (h : PV X I e δ (.int m)) (q : κ.nx (δ.set i (some (.int (n + m)))) I) {pos' : Pos} (hN : X.N.Nodup := by assumption) (hi : X.N[i]? = some x' := by rfl) (hx : Loc X.env.scope x' := by first | exact Or.inl rfl | exact Or.inr rfl)
    (hf : X.fn x' = true ∨ X.env.scope.names.lookup x' = some .local := by first | exact .inl rfl | exact .inr rfl) : S1 X W (.AugAssign (.Name x' pos') .Add e pos) δ I κ := fun σ G H E hE s hI k => by
  obtain ⟨v, hv, rv⟩ := hE.2 i _ hd
  obtain rfl : v = .int n := rv
  exact PS.wp (ps_aug hN hi hx peC ip_add hf) ⟨_, hv, h W (κ.r δ) (fun z J => z = .int m ∧ J = I) ⟨rfl, rfl⟩ σ G H _ hE s hI (k.kx hE) fun w d1 G1 H1 I1 s1 t1 h1 r1 ⟨ed, ei⟩ => by
    subst ed ei
    exact ⟨n, m, rfl, r1, k.nx _ _ G1 H1 _ s1 t1 h1 ((hE.mono s1).set (d := .int (n + m)) rfl) q⟩⟩
/-- tuple(e), e a list that is made there -/
theorem ev_tuple (hm : X.mg "tuple" = none) (h : EvX X W R e δ I fun d I1 => ∃ ds, (d = .lst ds ∨ d = .lsf ds ∨ d = .tup ds) ∧ P (.tup ds) I1) (hg : Gl X "tuple" := by rfl)
    (he : starEach [e] X.env = (false, eval e X.env) :: starEach [] X.env := by rfl) (hpl : (backTo pos (starEach [] X.env)).any (·.1) = false := by rfl) : EvX X W R (.Call (.Name "tuple" p) [e] [] pos) δ I P :=
  ev_ct call_tuple_of hm (ea_cons (h.imp fun d I1 ⟨ds, hd, pp⟩ => ea_nil (pn_tupL hd P pp)) he) (by decide +kernel) hg (by decide) (by decide) he hpl
/-- .. of a list that may change, and is not asked for again -/
theorem ev_tupleM (c : Iv X.K) {q : Addr} (hm : X.mg "tuple" = none) (h : PV X I e δ (.adr q)) (eI : I = c.and (iLst X.K q ds)) (pp : P (.tup ds) c) (hg : Gl X "tuple" := by rfl)
    (he : starEach [e] X.env = (false, eval e X.env) :: starEach [] X.env := by rfl) (hpl : (backTo pos (starEach [] X.env)).any (·.1) = false := by rfl) : EvX X W R (.Call (.Name "tuple" p) [e] [] pos) δ I P :=
  ev_tuple hm (ev_freezeL (h.ev ⟨q, ds, c, rfl, eI, ds, .inl rfl, pp⟩)) hg he hpl
end
section
variable {X : Cx} {W : WX} {R : Rx X.K} {a b o e i : Expr} {δ : DEnv} {I : Iv X.K} {pos p : Pos} {y z : D} {kds : List (Key × D)} {k : Key}
theorem pt_din (hu : X.A.units + 1 < cLine) (dI : DicI X I z kds) (hi : PV X I i δ y) (ho : PV X I o δ z) (hk : keyD y = some k) (hm : behindInMarks .In o = false := by rfl) : PVT X I (.Compare i [.In] [o] pos) δ ((getG kds k).isSome) := fun W R P pp σ G H Q hE s hI qx q =>
  PT.wp (L2.pt_cmp (pc_din hu peC peC) hm) (hi W R (fun z1 I1 => z1 = y ∧ I1 = I) ⟨rfl, rfl⟩ σ G H _ hE s hI qx fun v d1 G1 H1 I1 s1 t1 h1 r1 ⟨ed, ei⟩ => by
    subst ed ei
    refine ho W R (fun z1 J => z1 = z ∧ J = I1) ⟨rfl, rfl⟩ σ G1 H1 _ (hE.mono s1) t1 h1 (qx.mono s1) fun v2 d2 G2 H2 I2 s2 t2 h2 r2 ⟨ed2, ei2⟩ => ?_
    subst ed2 ei2
    obtain ⟨a, kvs, e1, rd, kr⟩ := dic_rd dI t2 h2 r2
    refine ⟨a, valV kvs k, e1, .inl ⟨kvs, k, rd, rep_key hk (r1.mono s2), rfl⟩, ?_⟩
    have e5 : (valV kvs k).isSome = (getG kds k).isSome := by
      cases h : getG kds k with
      | none => rw [(kr.get (k := k)).2 h]; rfl
      | some d0 =>
        obtain ⟨u, e3, _⟩ := (kr.get (k := k)).1 d0 h
        rw [e3]; rfl
    rw [e5]
    exact ⟨_, rfl, q _ G2 H2 _ (s1.trans s2) t2 h2 pp⟩)
theorem pt_dnin (hu : X.A.units + 1 < cLine) (dI : DicI X I z kds) (hi : PV X I i δ y) (ho : PV X I o δ z) (hk : keyD y = some k) (hm : behindInMarks .NotIn o = false := by rfl) : PVT X I (.Compare i [.NotIn] [o] pos) δ (!(getG kds k).isSome) := fun W R P pp σ G H Q hE s hI qx q =>
  PT.wp (L2.pt_cmp (pc_dnotin hu peC peC) hm) (hi W R (fun z1 I1 => z1 = y ∧ I1 = I) ⟨rfl, rfl⟩ σ G H _ hE s hI qx fun v d1 G1 H1 I1 s1 t1 h1 r1 ⟨ed, ei⟩ => by
    subst ed ei
    refine ho W R (fun z1 J => z1 = z ∧ J = I1) ⟨rfl, rfl⟩ σ G1 H1 _ (hE.mono s1) t1 h1 (qx.mono s1) fun v2 d2 G2 H2 I2 s2 t2 h2 r2 ⟨ed2, ei2⟩ => ?_
    subst ed2 ei2
    obtain ⟨a, kvs, e1, rd, kr⟩ := dic_rd dI t2 h2 r2
    refine ⟨a, valV kvs k, e1, .inl ⟨kvs, k, rd, rep_key hk (r1.mono s2), rfl⟩, ?_⟩
    have e5 : (valV kvs k).isSome = (getG kds k).isSome := by
      cases h : getG kds k with
      | none => rw [(kr.get (k := k)).2 h]; rfl
      | some d0 =>
        obtain ⟨u, e3, _⟩ := (kr.get (k := k)).1 d0 h
        rw [e3]; rfl
    rw [e5]
    exact ⟨_, rfl, q _ G2 H2 _ (s1.trans s2) t2 h2 pp⟩)
theorem et_inOwn {n : Nat} {C : Addr} {S : Spec X.K} {PB : Bool → Iv X.K → Prop} (tk : Takes X W) (hf : PySem.W.findIn X.K (.ref C) "__contains__" = some (some (.ref (He.ma X.K C "__contains__")))) (hi : PySem.W.isFn X.K (.ref (He.ma X.K C "__contains__")) = true) (F : FnR X.prog X.w X.K X.mg X.base (L2.CX X.prog X.w) n (He.ma X.K C "__contains__") (spD X.K S)) (hr : Room n X.A)
    (h : EvX X W R a δ I fun x I1 => EvX X W R b δ I1 fun y I2 => InsD C "" y I2 ∧ S I2 [y, x] (fun d I3 => ∃ k, d = .bl k ∧ PB (k) I3) R) (hm : behindInMarks .In b = false := by rfl) : EvT X W R (.Compare a [.In] [b] pos) δ I PB := fun σ G H Q hE s hI qx q => by
  refine ⟨fun pins st J => wpAny_isTrue_Compare1 (binT peC peC J (R := fun x y H2 => ∃ c, y = .ref c ∧ IsI H2 c C "" ∧ spD X.K S [y, x] H2 (fun v H3 => ∃ k, v = .bl k ∧ Q (k) H3) (WE W σ)) (h σ G H _ hE s hI qx fun v x G1 H1 I1 s1 t1 h1 r1 k1 => k1 σ G1 H1 _ (hE.mono s1) t1 h1 (qx.mono s1) fun w y G2 H2 I2 s2 t2 h2 r2 ⟨hx, k2⟩ => ?_) fun v u s2 x y H2 J2 rx ry ⟨c, ec, hic, q2⟩ => ?_) hm⟩
  · obtain ⟨c, ec, hic⟩ := hx G2 H2 w t2 h2 r2
    refine ⟨c, ec, hic, spD_at t2 h2 (.cons r2 (.cons (r1.mono s2) .nil)) k2 (fun z d G3 H3 I3 s3 t3 h3 r3 ⟨k, ed, pp⟩ => ?_) (qx.mono (s1.trans s2))⟩
    subst ed
    exact ⟨k, r3, q _ G3 H3 I3 ((s1.trans s2).trans s3) t3 h3 pp⟩
  · subst ec
    obtain rfl : u = Value.ref c := ry
    obtain ⟨ox, od, O, _⟩ := isi_inst J2 hic
    obtain ⟨mm, hF⟩ := J2.fr
    refine PySem.W.in_K hF J2.ok.mod.kin O hf hi (wpAny_mono (wpAny_call (run_own tk F hr J2.env0 J2 (us := [.ref c, v]) (ws := [.ref c, x]) (.cons rfl (.cons rx .nil)) q2)) (fun r s3 z => ?_) fun _ _ x => x)
    obtain ⟨z', H3, J3, rz, k, ek, qz⟩ := z
    subst ek
    cases (show r = Value.bool k from rz)
    exact wpAny_truthy_bool (wpAny_truthy_bool ⟨H3, J3, qz⟩)
theorem et_ninOwn {n : Nat} {C : Addr} {S : Spec X.K} {PB : Bool → Iv X.K → Prop} (tk : Takes X W) (hf : PySem.W.findIn X.K (.ref C) "__contains__" = some (some (.ref (He.ma X.K C "__contains__")))) (hi : PySem.W.isFn X.K (.ref (He.ma X.K C "__contains__")) = true) (F : FnR X.prog X.w X.K X.mg X.base (L2.CX X.prog X.w) n (He.ma X.K C "__contains__") (spD X.K S)) (hr : Room n X.A)
    (h : EvX X W R a δ I fun x I1 => EvX X W R b δ I1 fun y I2 => InsD C "" y I2 ∧ S I2 [y, x] (fun d I3 => ∃ k, d = .bl k ∧ PB (!k) I3) R) (hm : behindInMarks .NotIn b = false := by rfl) : EvT X W R (.Compare a [.NotIn] [b] pos) δ I PB := fun σ G H Q hE s hI qx q => by
  refine ⟨fun pins st J => wpAny_isTrue_Compare1 (binT peC peC J (R := fun x y H2 => ∃ c, y = .ref c ∧ IsI H2 c C "" ∧ spD X.K S [y, x] H2 (fun v H3 => ∃ k, v = .bl k ∧ Q (!k) H3) (WE W σ)) (h σ G H _ hE s hI qx fun v x G1 H1 I1 s1 t1 h1 r1 k1 => k1 σ G1 H1 _ (hE.mono s1) t1 h1 (qx.mono s1) fun w y G2 H2 I2 s2 t2 h2 r2 ⟨hx, k2⟩ => ?_) fun v u s2 x y H2 J2 rx ry ⟨c, ec, hic, q2⟩ => ?_) hm⟩
  · obtain ⟨c, ec, hic⟩ := hx G2 H2 w t2 h2 r2
    refine ⟨c, ec, hic, spD_at t2 h2 (.cons r2 (.cons (r1.mono s2) .nil)) k2 (fun z d G3 H3 I3 s3 t3 h3 r3 ⟨k, ed, pp⟩ => ?_) (qx.mono (s1.trans s2))⟩
    subst ed
    exact ⟨k, r3, q _ G3 H3 I3 ((s1.trans s2).trans s3) t3 h3 pp⟩
  · subst ec
    obtain rfl : u = Value.ref c := ry
    obtain ⟨ox, od, O, _⟩ := isi_inst J2 hic
    obtain ⟨mm, hF⟩ := J2.fr
    refine PySem.W.notIn_K hF J2.ok.mod.kin O hf hi (wpAny_mono (wpAny_call (run_own tk F hr J2.env0 J2 (us := [.ref c, v]) (ws := [.ref c, x]) (.cons rfl (.cons rx .nil)) q2)) (fun r s3 z => ?_) fun _ _ x => x)
    obtain ⟨z', H3, J3, rz, k, ek, qz⟩ := z
    subst ek
    cases (show r = Value.bool k from rz)
    exact wpAny_truthy_bool (wpAny_truthy_bool ⟨H3, J3, qz⟩)
end
end DL
set_option Elab.async false
set_option linter.all false
set_option maxRecDepth 100000
set_option maxHeartbeats 4000000
namespace DL
open PySem PySem.Spec PyProof.Rows L2
section
variable {X : Cx} {W : WX} {R : Rx X.K} {e : Expr} {sts : List Stmt} {st : Stmt} {δ : DEnv} {I J : Iv X.K} {κ : Ko X.K} {P : D → Iv X.K → Prop}
/-- what is not asked for again -/
theorem SX.drop (h : SX X W sts δ I κ) : SX X W sts δ (I.and J) κ := fun σ G H E hE s hI k => h σ G H E hE s hI.left k
theorem S1.drop (h : S1 X W st δ I κ) : S1 X W st δ (I.and J) κ := fun σ G H E hE s hI k => h σ G H E hE s hI.left k
theorem EvX.drop (h : EvX X W R e δ I fun d I1 => ∃ I2 J2, I1 = I2.and J2 ∧ P d I2) : EvX X W R e δ I P := fun σ G H Q hE s hI qx q => h σ G H Q hE s hI qx fun v d G1 H1 I1 s1 t1 h1 r1 ⟨I2, J2, ei, pp⟩ => by
  subst ei
  exact q v d G1 H1 I2 s1 t1 h1.left r1 pp
end
end DL
set_option Elab.async false
set_option linter.all false
set_option maxRecDepth 100000
set_option maxHeartbeats 4000000
/-! dicts whose keys are nested tuples -/
namespace L2
open PySem PySem.Spec PyProof.Rows
abbrev MX := List (NestedKey × Addr × Value)
def memoΦ (P : Program) (w : World) (q : Addr) (xs : MX) (h : Heap) : Prop := (q == sysModules) = false ∧ xs.length ≤ 1000000 ∧ ∃ o es ep, h.get? q = some o ∧ o.ExactDict ∧ o.data = .dict es ep ∧ es.toList = xs.map (entryOfKey (nestedKind P w)) ∧ (xs.map (·.1)).Nodup
def memoO (P : Program) (w : World) (q : Addr) (xs : MX) : HO := .ext (memoΦ P w q xs)
section
variable {X : Cx} {pins : List (Addr × Obj)} {σ : St} {H H' : Hp} {s : Shared} {P : Program} {w : World} {q : Addr} {xs : MX} {h : Heap}
theorem memo_new (m : memoΦ P w q xs h) : ObjOk P w H h q (memoO P w q xs) := by
  obtain ⟨a1, a2, o, es, ep, b1, b2⟩ := id m
  exact ⟨m, ⟨o, b1⟩, fun h1 h2 ⟨c1, c2, o1, es1, ep1, d1, d2⟩ k => ⟨c1, c2, o1, es1, ep1, k o1 d1, d2⟩⟩
theorem memo_of (I : Inv X pins σ H s) (e : H q = some (memoO X.prog X.w q xs)) : memoΦ X.prog X.w q xs s.heap := (I.hok q _ e).1
/-- an empty dict, told as one -/
theorem memo_start (I : Inv X pins σ H s) (e : H q = some (.dK [])) : Inv X pins σ (upd H q (memoO X.prog X.w q [])) s := by
  obtain ⟨z, lo, vs, rel, dd⟩ := dk_of I.hok e
  obtain ⟨o, es, ep, ho, hc, hd, hk, hp, hn⟩ := dd
  have ev : vs = [] := by cases rel; rfl
  subst ev
  have ee : es.toList = [] := by
    have := hp.length
    exact List.length_eq_zero_iff.mp (by simpa using this)
  exact I.write (x := q) (e := q) (t' := s.toks) (h' := s.heap) (by rw [e]; exact True.intro) (.inl rfl) (fun b v _ qq => qq) ⟨o, ho⟩ (memo_new ⟨lo, Nat.zero_le _, o, es, ep, ho, hc, hd, by rw [ee]; rfl, List.nodup_nil⟩)
end
end L2
namespace DL
open PySem PySem.Spec PyProof.Rows L2
mutual
def keyN : NestedKey → D
  | .none => .non
  | .num i => .int i
  | .text x => .str x
  | .tup ks => .tup (keyNs ks)
def keyNs : List NestedKey → List D
  | [] => []
  | k :: ks => keyN k :: keyNs ks
end
mutual
theorem nested_of {X : Cx} {pins : List (Addr × Obj)} {σ : L2.St} {G H : Hp} {s : Shared} (I : Inv X pins σ H s) (sm : Same G H) : ∀ (k : NestedKey) (v : V) (u : Value), Rep X.K G (keyN k) v → RelV v u → NestedIs s.heap k u
  | .none, v, u, r, h => by
    rw [show v = .non from r] at h
    rw [show u = .none from h]; exact .none
  | .num i, v, u, r, h => by
    rw [show v = .int i from r] at h
    obtain ⟨t, rfl⟩ := (show ∃ t, u = Value.int i t from h)
    exact .int i t
  | .text x, v, u, r, h => by
    rw [show v = .str x from r] at h
    obtain ⟨t, rfl⟩ := (show ∃ t, u = Value.str x t from h)
    exact .text x t
  | .tup ks, v, u, ⟨a, vs, e1, e2, e3⟩, h => by
    rw [e1] at h
    obtain rfl : u = Value.ref a := h
    obtain ⟨its, r, ⟨o, ho, hc, n, hd⟩, _⟩ := I.tuple (sqT_mono sm e2)
    exact .tup ho hc hd (nesteds_of I sm ks vs its e3 r)
theorem nesteds_of {X : Cx} {pins : List (Addr × Obj)} {σ : L2.St} {G H : Hp} {s : Shared} (I : Inv X pins σ H s) (sm : Same G H) : ∀ (ks : List NestedKey) (vs : List V) (us : List Value), Reps X.K G (keyNs ks) vs → Vals vs us → NestedAll s.heap ks us
  | [], vs, us, r, h => by
    rw [show vs = [] from r] at h
    cases h; exact .nil
  | k :: ks, vs, us, ⟨v, vr, e, r1, r2⟩, h => by
    rw [e] at h
    cases h with
    | cons a b => exact .cons (nested_of I sm k _ _ r1 a) (nesteds_of I sm ks _ _ r2 b)
end
/-- the entries, by data -/
def MR (K : PySem.W.Frag) (G : Hp) : List (NestedKey × D) → MX → Prop
  | [], xs => xs = []
  | p :: r, xs => ∃ (a : Addr) (v : V) (u : Value) (rest : MX), xs = (p.1, a, u) :: rest ∧ Rep K G (keyN p.1) (.ref a) ∧ p.1.depth ≤ 8 ∧ RelV v u ∧ Rep K G p.2 v ∧ MR K G r rest
theorem MR.mono {K : PySem.W.Frag} {G G' : Hp} (s : Same G G') : ∀ {kds : List (NestedKey × D)} {xs : MX}, MR K G kds xs → MR K G' kds xs
  | [], _, h => h
  | _ :: _, _, ⟨a, v, u, rest, e, h1, h2, h3, h4, h5⟩ => ⟨a, v, u, rest, e, h1.mono s, h2, h3, h4.mono s, MR.mono s h5⟩
theorem MR.len {K : PySem.W.Frag} {G : Hp} : ∀ {kds : List (NestedKey × D)} {xs : MX}, MR K G kds xs → xs.length = kds.length
  | [], _, h => by rw [show _ = [] from h]; rfl
  | _ :: _, _, ⟨a, v, u, rest, e, _, _, _, _, h⟩ => by rw [e, List.length_cons, List.length_cons, MR.len h]
theorem MR.is {X : Cx} {pins : List (Addr × Obj)} {σ : L2.St} {G H : Hp} {s : Shared} (I : Inv X pins σ H s) (sm : Same G H) : ∀ {kds : List (NestedKey × D)} {xs : MX}, MR X.K G kds xs → ∀ x ∈ xs, (nestedKind X.prog X.w).is s.heap x.1 x.2.1
  | [], _, h, x, hx => by rw [show _ = [] from h] at hx; cases hx
  | _ :: _, _, ⟨a, v, u, rest, e, h1, h2, h3, h4, h5⟩, x, hx => by
    rw [e] at hx
    rcases List.mem_cons.mp hx with rfl | hx
    · exact ⟨nested_of I sm _ _ _ h1 rfl, h2⟩
    · exact MR.is I sm h5 x hx
def getN (kds : List (NestedKey × D)) (k : NestedKey) : Option D := (kds.find? fun p => decide (p.1 = k)).map (·.2)
theorem MR.get {K : PySem.W.Frag} {G : Hp} {k : NestedKey} : ∀ {kds : List (NestedKey × D)} {xs : MX}, MR K G kds xs → (∀ d, getN kds k = some d → ∃ a u v, atKey xs k = some (a, u) ∧ RelV v u ∧ Rep K G d v) ∧ (getN kds k = none → atKey xs k = none)
  | [], _, h => by rw [show _ = [] from h]; exact ⟨(fun d e => nomatch e), fun _ => rfl⟩
  | p :: r, _, ⟨a, v, u, rest, e, h1, h2, h3, h4, h5⟩ => by
    rw [e]
    unfold getN atKey
    rw [List.find?_cons, List.find?_cons]
    by_cases hk : p.1 = k
    · rw [decide_eq_true hk]
      exact ⟨fun d ed => by cases ed; exact ⟨a, u, v, rfl, h3, h4⟩, (fun en => nomatch en)⟩
    · rw [decide_eq_false hk]
      exact MR.get h5
theorem MR.app {K : PySem.W.Frag} {G : Hp} {k : NestedKey} {d : D} {a : Addr} {u : Value} {v : V} (h1 : Rep K G (keyN k) (.ref a)) (h2 : k.depth ≤ 8) (h3 : RelV v u) (h4 : Rep K G d v) : ∀ {kds : List (NestedKey × D)} {xs : MX}, MR K G kds xs → MR K G (kds ++ [(k, d)]) (xs ++ [(k, a, u)])
  | [], _, h => by rw [show _ = [] from h]; exact ⟨a, v, u, [], rfl, h1, h2, h3, h4, rfl⟩
  | _ :: _, _, ⟨a', v', u', rest, e, g1, g2, g3, g4, g5⟩ => by
    rw [e]
    exact ⟨a', v', u', _, rfl, g1, g2, g3, g4, MR.app h1 h2 h3 h4 g5⟩
def iMemo (P : Program) (w : World) (K : PySem.W.Frag) (q : Addr) (kds : List (NestedKey × D)) : Iv K := iObj K q (fun G o => ∃ xs, o = memoO P w q xs ∧ MR K G kds xs) fun _ _ _ s ⟨xs, h1, h2⟩ => ⟨xs, h1, h2.mono s⟩
section
variable {P : Program} {w : World} {K : PySem.W.Frag} {G H : Hp} {q : Addr} {kds : List (NestedKey × D)} {c : Rc K} {I : Iv K}
theorem Hd.memo (h : Hd (c.fill (iMemo P w K q kds)) G H) : ∃ xs, H q = some (memoO P w q xs) ∧ MR K G kds xs ∧ G q = none := by
  have z := h.inner
  obtain ⟨o, ho, xs, ev, r⟩ := z.ph
  subst ev
  exact ⟨xs, ho, r, z.fr q rfl⟩
theorem Hd.memoSet {kds' : List (NestedKey × D)} {xs' : MX} (h : Hd (c.fill (iMemo P w K q kds)) G H) (r : MR K G kds' xs') : Hd (c.fill (iMemo P w K q kds')) G (upd H q (memoO P w q xs')) :=
  Hd.change (I := iMemo P w K q kds) (I' := iMemo P w K q kds') (fun _ => Iff.rfl) (fun a ha => upd_ne ha) ⟨⟨_, upd_same, xs', rfl, r⟩, h.inner.fr⟩ h
end
/-- the dict, as the kit sees it -/
theorem memo_dict {X : Cx} {pins : List (Addr × Obj)} {σ : L2.St} {G H : Hp} {s : Shared} {q : Addr} {kds : List (NestedKey × D)} {xs : MX} (I : Inv X pins σ H s) (sm : Same G H) (e : H q = some (memoO X.prog X.w q xs)) (r : MR X.K G kds xs) : (q == sysModules) = false ∧ s.heap.DictOfH (nestedKind X.prog X.w) q xs := by
  obtain ⟨a1, a2, o, es, ep, b1, b2, b3, b4, b5⟩ := memo_of I e
  exact ⟨a1, o, es, ep, b1, b2, b3, b4, MR.is I sm r, b5⟩
/-! ### rules -/
section
variable {X : Cx} {W : WX} {R : Rx X.K} {o i e : Expr} {sts : List Stmt} {δ : DEnv} {I : Iv X.K} {pos ps : Pos} {q : Addr} {kds : List (NestedKey × D)} {ks : List NestedKey} {d : D} {κ : Ko X.K}
theorem kroom (hu : X.A.units + 64 < cLine) : (nestedKind X.prog X.w).room X.A.in1 := by
  show X.A.in1.units + 8 < cLine
  have : X.A.in1.units = X.A.units + 1 := rfl
  omega
/-- k not in memo -/
theorem pt_memoNot (hu : X.A.units + 64 < cLine) (c : Rc X.K) (hi : PV X I i δ (.tup (keyNs ks))) (ho : PV X I o δ (.adr q)) (hk : (NestedKey.tup ks).depth ≤ 8) (eI : I = c.fill (iMemo X.prog X.w X.K q kds) := by rfl) (hm : behindInMarks .NotIn o = false := by rfl) : PVT X I (.Compare i [.NotIn] [o] pos) δ (!(getN kds (.tup ks)).isSome) := fun W R P pp σ G H Q hE s hI qx q0 =>
  ⟨fun pins st J => wpAny_isTrue_Compare1 (binT peC peC J (R := fun x y H2 => ∃ (G2 : Hp) (a : Addr) (xs : MX), x = .ref a ∧ y = .ref q ∧ Same G2 H2 ∧ Rep X.K G2 (keyN (.tup ks)) (.ref a) ∧ H2 q = some (memoO X.prog X.w q xs) ∧ MR X.K G2 kds xs ∧ Q (!(getN kds (.tup ks)).isSome) H2)
    (hi W R (fun z J => z = .tup (keyNs ks) ∧ J = I) ⟨rfl, rfl⟩ σ G H _ hE s hI qx fun v x G1 H1 I1 s1 t1 h1 r1 ⟨e1, e2⟩ => by
      subst e1 e2
      exact ho W R (fun z J => z = .adr q ∧ J = I1) ⟨rfl, rfl⟩ σ G1 H1 _ (hE.mono s1) t1 h1 (qx.mono s1) fun w2 y G2 H2 I2 s2 t2 h2 r2 ⟨e3, e4⟩ => by
        subst e3 e4
        have h2' := h2
        subst eI
        obtain ⟨xs, hx, mr, _⟩ := h2'.memo
        obtain ⟨a, vs, ea, ra⟩ := r1
        exact ⟨G2, a, xs, ea, r2, t2, (show Rep X.K G1 (keyN (.tup ks)) (.ref a) from ⟨a, vs, rfl, ra⟩).mono s2, hx, mr, q0 _ G2 H2 _ (s1.trans s2) t2 h2 pp⟩)
    fun v u s2 x y H2 J2 rx ry ⟨G2, a, xs, ex, ey, sm, rk, hx, mr, qq⟩ => by
      subst ex ey
      obtain rfl : v = Value.ref a := rx
      obtain rfl : u = Value.ref q := ry
      obtain ⟨a1, dd⟩ := memo_dict J2 sm hx mr
      have hkey : (nestedKind X.prog X.w).is s2.heap (.tup ks) a := ⟨nested_of J2 sm _ _ _ rk rfl, hk⟩
      have e5 : (atKey xs (.tup ks)).isSome = (getN kds (.tup ks)).isSome := by
        cases h : getN kds (.tup ks) with
        | none => rw [mr.get.2 h]; rfl
        | some d0 =>
          obtain ⟨a', u', v', h3, _⟩ := mr.get.1 d0 h
          rw [h3]; rfl
      show wpAny _ _ (do return Value.bool (!(← contains (.ref q) (.ref a)))) _ _ s2
      refine wpAny_bind (wpAny_contains_heap (kroom hu) hkey a1 dd (wpAny_pure (wpAny_truthy_bool ?_)))
      rw [e5]
      exact ⟨H2, J2.tok _, qq⟩) hm⟩
/-- memo[k] -/
theorem pv_memoGet (hu : X.A.units + 64 < cLine) (c : Rc X.K) (ho : PV X I o δ (.adr q)) (hi : PV X I i δ (.tup (keyNs ks))) (hk : (NestedKey.tup ks).depth ≤ 8) (hd : getN kds (.tup ks) = some d) (eI : I = c.fill (iMemo X.prog X.w X.K q kds) := by rfl) (hs : NoSl i := by exact fun _ _ => rfl) : PV X I (.Subscript o i pos) δ d := fun W R P pp σ G H Q hE s hI qx q0 =>
  ⟨fun pins st J => subD_of PySem.F.slot_dict_getitem.lookup hs (thn (peC.run pins st σ H _ J (ho W R (fun z J => z = .adr q ∧ J = I) ⟨rfl, rfl⟩ σ G H (fun y H1 => wpE X i σ H1 fun x H2 => ∃ (G2 : Hp) (a : Addr) (xs : MX), x = .ref a ∧ y = .ref q ∧ Same G2 H2 ∧ Rep X.K G2 (keyN (.tup ks)) (.ref a) ∧ H2 q = some (memoO X.prog X.w q xs) ∧ MR X.K G2 kds xs ∧ ∀ v, Rep X.K G2 d v → Q v H2) hE s hI qx fun w2 y G1 H1 I1 s1 t1 h1 r1 ⟨e1, e2⟩ => by
      subst e1 e2
      exact hi W R (fun z J => z = .tup (keyNs ks) ∧ J = I1) ⟨rfl, rfl⟩ σ G1 H1 _ (hE.mono s1) t1 h1 (qx.mono s1) fun v x G2 H2 I2 s2 t2 h2 r2 ⟨e3, e4⟩ => by
        subst e3 e4
        have h2' := h2
        subst eI
        obtain ⟨xs, hx, mr, _⟩ := h2'.memo
        obtain ⟨a, vs, ea, ra⟩ := r2
        exact ⟨G2, a, xs, ea, r1, t2, ⟨a, vs, rfl, ra⟩, hx, mr, fun v rv => q0 v d G2 H2 _ (s1.trans s2) t2 h2 rv pp⟩)) fun u s1 ⟨y, H1, J1, ry, k1⟩ => thn (peC.run pins s1 σ H1 _ J1 k1) fun iv s2 ⟨x, H2, J2, rx, G2, a, xs, ex, ey, sm, rk, hx, mr, qq⟩ => by
      subst ex ey
      obtain rfl : iv = Value.ref a := rx
      obtain rfl : u = Value.ref q := ry
      obtain ⟨a1, dd⟩ := memo_dict J2 sm hx mr
      have hkey : (nestedKind X.prog X.w).is s2.heap (.tup ks) a := ⟨nested_of J2 sm _ _ _ rk rfl, hk⟩
      obtain ⟨a', u', v', h3, h4, h5⟩ := mr.get.1 d hd
      exact ⟨dd.typeIs, wpAny_getItem_heap (kroom hu) hkey dd h3 ⟨v', H2, J2.tok _, h4, qq v' h5⟩⟩)⟩
/-- memo[k] = e, a key that is new -/
theorem s_memoPut (hu : X.A.units + 64 < cLine) (c : Rc X.K) (he : PV X I e δ d) (ho : PV X I o δ (.adr q)) (hi : PV X I i δ (.tup (keyNs ks))) (hk : (NestedKey.tup ks).depth ≤ 8) (hn : getN kds (.tup ks) = none) (hz : kds.length < 100000) (nx : κ.nx δ (c.fill (iMemo X.prog X.w X.K q (kds ++ [(.tup ks, d)])))) (eI : I = c.fill (iMemo X.prog X.w X.K q kds) := by rfl)
    (hs : swapsWith e (some (.Subscript o i ps)) pos.line X.env = pure false := by rfl) : S1 X W (.Assign [.Subscript o i ps] e pos) δ I κ := fun σ G H E hE s hI kk => by
  subst eI
  refine ⟨fun pins st J => wpAny_Assign_Subscript (thn (peC.run pins st σ H _ J (he W (κ.r δ) (fun z J => z = d ∧ J = c.fill (iMemo X.prog X.w X.K q kds)) ⟨rfl, rfl⟩ σ G H (fun v H1 => wpE X o σ H1 fun y H2 => wpE X i σ H2 fun x H3 => ∃ (G3 : Hp) (a : Addr) (xs : MX), x = .ref a ∧ y = .ref q ∧ Same G3 H3 ∧ Rep X.K G3 (keyN (.tup ks)) (.ref a) ∧ Rep X.K G3 d v ∧ H3 q = some (memoO X.prog X.w q xs) ∧ MR X.K G3 kds xs ∧ ∀ xs', MR X.K G3 (kds ++ [(.tup ks, d)]) xs' → E.nx σ (upd H3 q (memoO X.prog X.w q xs'))) hE s hI (kk.kx hE) ?_)) fun r s1 ⟨v, H1, J1, rv, k1⟩ => thn (peC.run pins s1 σ H1 _ J1 k1) fun u s2 ⟨y, H2, J2, ry, k2⟩ => thn (peC.run pins s2 σ H2 _ J2 k2) fun iv s3 ⟨x, H3, J3, rx, G3, a, xs, ex, ey, sm, rk, rd, hx, mr, qq⟩ => ?_) hs⟩
  · intro v z G1 H1 I1 s1 t1 h1 r1 ⟨e1, e2⟩
    subst e1 e2
    refine ho W (κ.r δ) (fun z J => z = .adr q ∧ J = c.fill (iMemo X.prog X.w X.K q kds)) ⟨rfl, rfl⟩ σ G1 H1 _ (hE.mono s1) t1 h1 ((kk.kx hE).mono s1) fun w2 y G2 H2 I2 s2 t2 h2 r2 ⟨e3, e4⟩ => ?_
    subst e3 e4
    refine hi W (κ.r δ) (fun z J => z = .tup (keyNs ks) ∧ J = c.fill (iMemo X.prog X.w X.K q kds)) ⟨rfl, rfl⟩ σ G2 H2 _ (hE.mono (s1.trans s2)) t2 h2 ((kk.kx hE).mono (s1.trans s2)) fun w3 x G3 H3 I3 s3 t3 h3 r3 ⟨e5, e6⟩ => ?_
    subst e5 e6
    obtain ⟨xs, hx, mr, g3⟩ := h3.memo
    obtain ⟨a, vs, ea, ra⟩ := r3
    exact ⟨G3, a, xs, ea, r2, t3, ⟨a, vs, rfl, ra⟩, (r1.mono s2).mono s3, hx, mr, fun xs' m' => kk.nx δ σ G3 _ _ ((s1.trans s2).trans s3) (same_upd t3 g3) (h3.memoSet m') (hE.mono ((s1.trans s2).trans s3)) nx⟩
  · subst ex ey
    obtain rfl : iv = Value.ref a := rx
    obtain rfl : u = Value.ref q := ry
    obtain ⟨a1, dd⟩ := memo_dict J3 sm hx mr
    have hkey : (nestedKind X.prog X.w).is s3.heap (.tup ks) a := ⟨nested_of J3 sm _ _ _ rk rfl, hk⟩
    have hl := mr.len
    have hnew : atKey xs (.tup ks) = none := mr.get.2 hn
    refine wpAny_setItem_heap (hsz := by rw [hl, sizeLine_eq]; omega) (kroom hu) hkey dd fun h' dd' hsb => ?_
    rw [storedH_new hnew] at dd'
    obtain ⟨o', es, ep, b1, b2, b3, b4, b5, b6⟩ := id dd'
    have J4 : Inv X pins σ (upd H3 q (memoO X.prog X.w q (xs ++ [(.tup ks, a, r)]))) { s3 with heap := h', toks := s3.toks + (nestedKind X.prog X.w).draws (.tup ks) } :=
      J3.write (x := q) (e := q) (by rw [hx]; exact True.intro) (.inl rfl) (fun b u hb z => (hsb.2 b hb).trans z) ⟨o', b1⟩ (memo_new ⟨a1, by rw [List.length_append, hl]; simp; omega, o', es, ep, b1, b2, b3, b4, b6⟩)
    exact ⟨σ, _, J4, qq _ (MR.app rk hk rv rd mr)⟩
end
end DL
set_option Elab.async false
set_option linter.all false
set_option maxRecDepth 100000
set_option maxHeartbeats 4000000
namespace L2
open PySem PySem.Spec PyProof.Rows
end L2
namespace DL
open PySem PySem.Spec PyProof.Rows L2
section
variable {X : Cx} {W : WX} {e : Expr} {sts : List Stmt} {δ : DEnv} {I : Iv X.K} {pos : Pos} {q : Addr} {κ : Ko X.K} {x' : Str} {n : Int}
theorem wpB_memo {σ : L2.St} {H : Hp} {E : Ends} (h : H q = some (.dK [])) (k : wpB X sts E σ (upd H q (memoO X.prog X.w q []))) : wpB X sts E σ H := ⟨fun pins s J => k.run pins s (memo_start J h)⟩
/-- a new dict, told as one with nested keys -/
theorem sx_memo (c : Rc X.K) (h : SX X W sts δ (c.fill (iMemo X.prog X.w X.K q [])) κ) : SX X W sts δ (c.fill (iDic X.K q [])) κ := fun σ G H E hE s hI k => by
  obtain ⟨kvs, hp, kr, g⟩ := hI.dic
  have ek : kvs = [] := kr
  subst ek
  refine wpB_memo hp (h σ G _ E hE (same_upd s g) ?_ k)
  exact Hd.change (I := iDic X.K q []) (I' := iMemo X.prog X.w X.K q []) (fun _ => Iff.rfl) (fun a ha => upd_ne ha) ⟨⟨_, upd_same, [], rfl, rfl⟩, hI.inner.fr⟩ hI
/-- x += e, where e may change things -/
theorem s_augE (i : Nat) (hd : δ[i]? = some (some (.int n))) (h : EvX X W (κ.r δ) e δ I fun d I1 => ∃ m, d = .int m ∧ κ.nx (δ.set i (some (.int (n + m)))) I1) {pos' : Pos} (hN : X.N.Nodup := by assumption) (hi : X.N[i]? = some x' := by rfl) (hx : Loc X.env.scope x' := by first | exact Or.inl rfl | exact Or.inr rfl)
    (hf : X.fn x' = true ∨ X.env.scope.names.lookup x' = some .local := by first | exact .inl rfl | exact .inr rfl) : S1 X W (.AugAssign (.Name x' pos') .Add e pos) δ I κ := fun σ G H E hE s hI k => by
  obtain ⟨v, hv, rv⟩ := hE.2 i _ hd
  obtain rfl : v = .int n := rv
  exact PS.wp (ps_aug hN hi hx peC ip_add hf) ⟨_, hv, h σ G H _ hE s hI (k.kx hE) fun w d1 G1 H1 I1 s1 t1 h1 r1 ⟨m, ed, nx⟩ => by
    subst ed
    exact ⟨n, m, rfl, r1, k.nx _ _ G1 H1 _ s1 t1 h1 ((hE.mono s1).set (d := .int (n + m)) rfl) nx⟩⟩
end
end DL
set_option Elab.async false
set_option linter.all false
set_option maxRecDepth 100000
set_option maxHeartbeats 4000000
namespace DL
open PySem PySem.Spec PyProof.Rows L2
/-- a def of the module that is called with keywords: n values, then the keywords ks -/
structure DefK (P : Program) (w : World) (K : PySem.W.Frag) (mg : Str → Option Value) (base : Heap) (x : Str) (k : Nat) (ps : List Str) (n : Nat) (ks : List Str) (dds : List D) (S : Spec K) : Prop where
  ex : ∃ (f : Addr) (fd : FuncData) (g : List Value → List Value → List Value) (gV : List V → List V → List V) (dv : List V), mg x = some (.ref f) ∧ PySem.W.keepIn K (.ref f) = true ∧ FnOk P w K mg base (L2.CX P w) k f fd ps (spD K S) ∧ KBn K fd ps n ks g gV ∧ (∀ vs zs, zs.length = ks.length → gV vs zs = vs ++ zs ++ dv) ∧ ∀ G, Reps K G dds dv
section
variable {P : Program} {w : World} {K : PySem.W.Frag} {mg : Str → Option Value} {base : Heap} {x qual : Str} {params : Arguments} {body : List Stmt} {scope : Scope} {f : Addr} {fd : FuncData} {ps ks : List Str} {k n : Nat} {S : Spec K} {kws : List (Str × V)}
theorem DefK.of (g : mg x = some (.ref f)) (F : FunD K x qual params body scope [] kws f fd) (ok : FnOk P w K mg base (L2.CX P w) k f fd ps (spD K S)) (hk : kws ≠ [])
    (h : ∀ (D : Addr) (doc pm : Value) (an : Option Addr) (cdv ct : Value) (us ws : List Value), us.length = n → ws.length = ks.length → KwChain D [] (bindArgs (PySem.W.fnOf x qual params body scope .none (.ref D) doc pm an cdv ct) ⟨us, ks.zip ws⟩) (ps.zip (us ++ ws))) : DefK P w K mg base x k ps n ks [] S := by
  obtain ⟨_, b⟩ := FunD.kbinds0 (ps := ps) F n ks [] (fun us _ ws => us ++ ws) hk (fun q hq => by cases hq) (fun r1 _ r3 => r1.append r3) fun D doc pm an cdv ct us mv ws h1 h2 h3 => by
    have e : mv = [] := List.length_eq_zero_iff.mp h2
    subst e
    exact h D doc pm an cdv ct us ws h1 h3
  exact ⟨f, fd, _, _, [], g, F.kp, ok, b, fun vs zs _ => (List.append_nil _).symm, fun _ => rfl⟩
/-- .. called without keywords: the defaults ms -/
theorem DefK.of0 {dds : List D} (g : mg x = some (.ref f)) (F : FunD K x qual params body scope [] kws f fd) (ok : FnOk P w K mg base (L2.CX P w) k f fd ps (spD K S)) (hk : kws ≠ []) (hd : ∀ G, Reps K G dds (kws.map (·.2)))
    (h : ∀ (D : Addr) (doc pm : Value) (an : Option Addr) (cdv ct : Value) (us mv : List Value), us.length = n → mv.length = kws.length → KwChain D ((kws.map (·.1)).zip mv) (bindArgs (PySem.W.fnOf x qual params body scope .none (.ref D) doc pm an cdv ct) ⟨us, []⟩) (ps.zip (us ++ mv))) : DefK P w K mg base x k ps n [] dds S := by
  obtain ⟨_, b⟩ := FunD.kbinds0 (ps := ps) F n [] kws (fun us ms _ => us ++ ms) hk (fun q hq => hq) (fun r1 r2 _ => r1.append r2) fun D doc pm an cdv ct us mv ws h1 h2 h3 => h D doc pm an cdv ct us mv h1 h2
  exact ⟨f, fd, _, fun vs zs => vs ++ kws.map (·.2), kws.map (·.2), g, F.kp, ok, b, fun vs zs hz => by rw [List.length_eq_zero_iff.mp hz, List.append_nil], hd⟩
end
section
variable {X : Cx} {W : WX} {R : Rx X.K} {e : Expr} {es : List Expr} {δ : DEnv} {I : Iv X.K} {P : D → Iv X.K → Prop} {pos p : Pos} {x : Str} {ps ks : List Str} {k n : Nat} {S : Spec X.K} {d : D} {kws : List Keyword}
theorem ev_defK (tk : Takes X W) {dds : List D} (F : DefK X.prog X.w X.K X.mg X.base x k ps n ks dds S) (hr : Room k X.A) (h : EvA X W R (e :: es) δ I fun ds I1 => EvK X W R kws δ I1 fun zs I2 => ds.length = n ∧ zs.length = ks.length ∧ S I2 (ds ++ zs ++ dds) P R)
    (hg : Gl X x := by rfl) (hdb : (x == ("__debug__" : Str)) = false := by decide) (hall : (backToKw pos (keywordEach kws X.env)).all (·.1.isSome) = true := by rfl) (hks : (backToKw pos (keywordEach kws X.env)).filterMap (·.1) = ks := by rfl)
    (he : starEach (e :: es) X.env = (false, eval e X.env) :: starEach es X.env := by rfl) (hpl : ((backTo pos (starEach (e :: es) X.env)).any (·.1) || (backToKw pos (keywordEach kws X.env)).any (·.1.isNone)) = false := by rfl) : EvX X W R (.Call (.Name x p) (e :: es) kws pos) δ I P := fun σ G H Q hE s hI qx q => ⟨fun pins s0 J0 => by
  obtain ⟨f, fd, g, gV, dv, hm, hk, F, hb, hgv, hdv⟩ := F.ex
  refine wpAny_Call_Name_kw (ld_glob J0 hg hm ?_ hdb)
  refine PySem.W.callWith_KW (h₀ := X.base) J0.ok.mod.kin hk hall ?_ hpl he
  refine thn ((h σ G H (fun vs H1 => ∀ (st : Shared) (us : List Value), Inv X pins σ H1 st → Vals vs us → wpAny (model X.prog X.w) X.A (evalAll ((backToKw pos (keywordEach kws X.env)).map (·.2)))
    (fun ws st2 => X.K.In st2.heap ∧ wpAny (model X.prog X.w) X.A (call (.ref f) us (((backToKw pos (keywordEach kws X.env)).filterMap (·.1)).zip ws)) (EP X pins σ Q) X.xe st2) X.xe st) hE s hI qx ?_).run pos pins s0 J0) fun us s1 ⟨vs, H1, J1, rv, z⟩ => z s1 us J1 rv
  intro vs ds G1 H1 I1 s1 t1 h1 r1 k st1 us J1 rv
  refine thn ((k σ G1 H1 (fun zs H2 => ∀ (st : Shared) (ws : List Value), Inv X pins σ H2 st → Vals zs ws → X.K.In st.heap ∧ wpAny (model X.prog X.w) X.A (call (.ref f) us (((backToKw pos (keywordEach kws X.env)).filterMap (·.1)).zip ws)) (EP X pins σ Q) X.xe st)
    (hE.mono s1) t1 h1 (qx.mono s1) ?_).run pos pins st1 J1) fun ws s2 ⟨zs, H2, J2, rz, z⟩ => z s2 ws J2 rz
  intro zs dz G2 H2 I2 s2 t2 h2 r2 ⟨hn, hkl, hS⟩ st2 ws J2 rz
  refine ⟨J2.kIn, ?_⟩
  rw [hks]
  have rel := hb.rel rv rz
  rw [hgv _ _ (by rw [r2.length, hkl])] at rel
  have rr : Reps X.K G2 (ds ++ dz ++ dds) (vs ++ zs ++ dv) := ((r1.mono s2).append r2).append (hdv G2)
  refine wpAny_call (codeAny_mono (F.run X.A X.stack st2 H2 ⟨us, ks.zip ws⟩ (g us ws) (vs ++ zs ++ dv) Q (WE W σ) hr J2.env0 (hb.to _ _ ws J2.kIn ?_ ?_) rel (spD_at t2 h2 rr hS (q.mono (s1.trans s2)) (qx.mono (s1.trans s2)))) fun r s' hq => ?_)
  · rw [← rv.length, r1.length, hn]
  · rw [← rz.length, r2.length, hkl]
  · cases r with
    | error e => exact passAt tk σ pins _ _ e s' J2 hq
    | ok fl =>
      cases fl with
      | ret u => exact J2.after hq
      | next => exact False.elim hq
      | brk => exact False.elim hq
      | cont => exact False.elim hq⟩
end
/-- a constant of K that is the empty tuple -/
def emptB (K : PySem.W.Frag) (a : Addr) : Bool := match K.lookup a with
  | some ⟨.type t, _, .seq its _, _⟩ => (t == "tuple") && its.isEmpty
  | _ => false
theorem emptB_ok {K : PySem.W.Frag} {a : Addr} (h : emptB K a = true) (G : Hp) : Rep K G (.tup []) (.ref a) := by
  unfold emptB at h
  split at h
  · rename_i t dd its n sl e
    obtain ⟨h1, h2⟩ := Bool.and_eq_true_iff.mp h
    have ht : t = "tuple" := by simpa using h1
    have hi : its = #[] := Array.isEmpty_iff.mp h2
    subst ht hi
    exact ⟨a, [], rfl, .inr ⟨_, #[], n, e, rfl, rfl, by decide, .nil⟩, rfl⟩
  · cases h
end DL
set_option Elab.async false
set_option linter.all false
set_option maxRecDepth 100000
set_option maxHeartbeats 4000000
namespace DL
open PySem PySem.Spec PyProof.Rows L2
/-! ### what a law's own text leans on, law by law alike -/
abbrev tyNs : List String := ["NoneType", "bool", "int", "str", "tuple", "list", "dict"]
theorem tyD_in {d : D} {t : String} (h : tyD d = some t) : tyNs.contains t = true := by
  cases d <;> first | (cases h; decide) | cases h
theorem raw0 {P : Program} {w : World} {K : PySem.W.Frag} {mg : Str → Option Value} {base : Heap} {CX : CXT} {k : Nat} {f : Addr} {fd : FuncData} {ps : List Str} {sp : Sp} (F : FnOk P w K mg base CX k f fd ps sp) (hb : L2.Binds K fd ps []) : FnR P w K mg base CX k f sp :=
  FnR.imp (F.raw hb .nil) fun vs H Q E h => by rw [List.append_nil]; exact h
/-- the function objects of these defs are as the text says -/
def Has (K : PySem.W.Frag) (d : He.DefD) : Prop := ∃ fd, FunD K d.name d.qual d.params d.body d.scope (d.dvs K) (d.kws K) (He.fAd K d.at_) fd
def HasG (K : PySem.W.Frag) (d : He.DefD) : Prop := ∃ fd, FunD K d.name d.qual d.params d.body d.scope (d.dvs K) (d.kws K) (pAd K d.at_) fd
theorem SaysP.has {fn gs : List He.DefD} {ex : PySem.W.Frag → Bool} {w : World} {h : Heap} {K : PySem.W.Frag} (c : SaysP fn gs ex w h K) {d : He.DefD} (hd : d ∈ fn) : Has K d := by
  obtain ⟨i, h1, h2⟩ := List.mem_iff_getElem.mp hd
  exact c.def_ i (by rw [List.getElem?_eq_getElem h1, h2])
theorem SaysP.hasG {fn gs : List He.DefD} {ex : PySem.W.Frag → Bool} {w : World} {h : Heap} {K : PySem.W.Frag} (c : SaysP fn gs ex w h K) {d : He.DefD} (hd : d ∈ gs) : HasG K d := by
  obtain ⟨i, h1, h2⟩ := List.mem_iff_getElem.mp hd
  exact c.get_ i (by rw [List.getElem?_eq_getElem h1, h2])
theorem all_at {bs : List Bool} (h : bs.all id = true) (i : Nat) {b : Bool} (e : bs[i]? = some b) : b = true := List.all_eq_true.mp h b (List.mem_of_getElem? e)
/-- a class with slots, as isinstance and the operators see it -/
structure TCls (K : PySem.W.Frag) (C : Addr) : Prop where
  sc : SlX.SCls K C
  si : SlX.SIsi K C
  kW : PySem.W.kitOne K (.ref C) (.ref C) = some true
  kT : ∀ t, tyNs.contains t = true → PySem.W.kitOne K (.type t) (.ref C) = some false
  nT : ∀ t, tyNs.contains t = true → PySem.W.notFirst K C (.type t) = true
  nW : PySem.W.notFirst K C (.ref C) = true
def tclB (K : PySem.W.Frag) (C : Addr) : Bool := scB K C && (siB K C && (decide (PySem.W.kitOne K (.ref C) (.ref C) = some true) && ((tyNs.all fun t => decide (PySem.W.kitOne K (.type t) (.ref C) = some false)) && ((tyNs.all fun t => PySem.W.notFirst K C (.type t)) && PySem.W.notFirst K C (.ref C)))))
theorem tclB_ok {K : PySem.W.Frag} {C : Addr} (q : tclB K C = true) : TCls K C := by
  obtain ⟨q0, q⟩ := He.ba q
  obtain ⟨q1, q⟩ := He.ba q
  obtain ⟨q2, q⟩ := He.ba q
  obtain ⟨q3, q⟩ := He.ba q
  obtain ⟨q4, q5⟩ := He.ba q
  exact ⟨scB_ok q0, siB_ok q1, of_decide_eq_true q2, fun t ht => of_decide_eq_true (List.all_eq_true.mp q3 t (List.contains_iff_mem.mp ht)), fun t ht => List.all_eq_true.mp q4 t (List.contains_iff_mem.mp ht), q5⟩
/-- a method of such a class -/
structure TMeth (K : PySem.W.Frag) (C : Addr) (m : Str) : Prop where
  f : PySem.W.findIn K (.ref C) m = some (some (.ref (He.ma K C m)))
  i : PySem.W.isFn K (.ref (He.ma K C m)) = true
  k : PySem.W.keepIn K (.ref (He.ma K C m)) = true
theorem tmeth_ok {K : PySem.W.Frag} {x m : Str} (q : (He.Fa.meth x m).ok K = true) : TMeth K (He.ga K x) m := by
  obtain ⟨c1, c⟩ := He.ba q
  obtain ⟨c2, c3⟩ := He.ba c
  exact ⟨He.eqO_ok c1, c2, c3⟩
/-- where the default of a keyword-only parameter stands -/
def kwdAt (f : Str × Option Str) (x : Str) (K : PySem.W.Frag) : Addr := match K.lookup (He.fAd K f) with
  | some ⟨_, _, .func fd, _⟩ => (match fd.kwdefaults with
    | .ref D => (match PySem.W.nsIn K D x with
      | some (some (.ref a)) => a
      | _ => 0)
    | _ => 0)
  | _ => 0
/-! an error's __init__ -/
section
variable {P : Program} {w : World} {K : PySem.W.Frag} {mg : Str → Option Value} {base : Heap} {f : Addr} {fd : FuncData} {C : Addr} {x qual f1 f2 : Str} {params : Arguments} {scope : Scope} {p1 p2 p3 p4 p5 p6 : Pos} {b1 b2 : Pos}
theorem ok_ini1 {q1 q2 q3 q4 : Pos} (F : FunD K x qual params [.Assign [.Attribute (.Name "self" q1) f1 q2] (.Name f1 q3) q4] scope [] [] f fd) (sc : FnScope ["self", f1] ["self", f1] scope) (oe : OexC K C) (n1 : PySem.W.findIn K (.ref C) f1 = some none)
    (v1 : Vis scope "self") (v2 : Vis scope f1) (d1 : (f1 == ("__debug__" : Str)) = false) (d2 : (f1 == ("__classdict__" : Str)) = false) : FnOk P w K mg base (L2.CX P w) 1 f fd ["self", f1] (spXIC C [f1]) := by
  refine F.ok sc (fun vs H Q E h => ?_) (fun cdv A outer s H vs Q E hr h => ?_)
  · obtain ⟨a, ws, rfl, hl, _⟩ := h
    simp [hl]
  · obtain ⟨a, ws, rfl, hl, ha, q⟩ := h
    obtain ⟨v, rfl⟩ : ∃ v, ws = [v] := by
      match ws, hl with
      | [v], _ => exact ⟨v, rfl⟩
    refine ⟨_, pss_one (ps_ost (pe_var (i := 0) rfl v1 (by decide) (by decide)) (pe_var (i := 1) rfl v2 d1 d2)), ?_⟩
    refine ⟨v, rfl, .ref a, rfl, a, _, rfl, oe, n1, .inl ⟨ha, fun dx hd hne => ?_⟩⟩
    exact q dx _ hd hne upd_same (by rw [upd_ne hne]; exact upd_same) fun b h1 h2 => by rw [upd_ne h1, upd_ne h2]
theorem ok_ini2 {q1 q2 q3 q4 r1 r2 r3 r4 : Pos} (F : FunD K x qual params [.Assign [.Attribute (.Name "self" q1) f1 q2] (.Name f1 q3) q4, .Assign [.Attribute (.Name "self" r1) f2 r2] (.Name f2 r3) r4] scope [] [] f fd) (sc : FnScope ["self", f1, f2] ["self", f1, f2] scope) (oe : OexC K C) (n1 : PySem.W.findIn K (.ref C) f1 = some none) (n2 : PySem.W.findIn K (.ref C) f2 = some none)
    (v1 : Vis scope "self") (v2 : Vis scope f1) (v3 : Vis scope f2) (d1 : (f1 == ("__debug__" : Str)) = false) (d2 : (f1 == ("__classdict__" : Str)) = false) (d3 : (f2 == ("__debug__" : Str)) = false) (d4 : (f2 == ("__classdict__" : Str)) = false) : FnOk P w K mg base (L2.CX P w) 1 f fd ["self", f1, f2] (spXIC C [f1, f2]) := by
  refine F.ok sc (fun vs H Q E h => ?_) (fun cdv A outer s H vs Q E hr h => ?_)
  · obtain ⟨a, ws, rfl, hl, _⟩ := h
    simp [hl]
  · obtain ⟨a, ws, rfl, hl, ha, q⟩ := h
    obtain ⟨v, u, rfl⟩ : ∃ v u, ws = [v, u] := by
      match ws, hl with
      | [v, u], _ => exact ⟨v, u, rfl⟩
    refine ⟨_, pss_cons (ps_ost (pe_var (i := 0) rfl v1 (by decide) (by decide)) (pe_var (i := 1) rfl v2 d1 d2)) (pss_one (ps_ost (pe_var (i := 0) rfl v1 (by decide) (by decide)) (pe_var (i := 2) rfl v3 d3 d4))), ?_⟩
    refine ⟨v, rfl, .ref a, rfl, a, _, rfl, oe, n1, .inl ⟨ha, fun dx hd hne => ?_⟩⟩
    refine ⟨u, rfl, .ref a, rfl, a, _, rfl, oe, n2, .inr ⟨dx, _, upd_same, by rw [upd_ne hne]; exact upd_same, by show 1 ≤ 900; decide, ?_⟩⟩
    exact q dx _ hd hne (by rw [upd_ne (Ne.symm hne)]; exact upd_same) upd_same fun b h1 h2 => by rw [upd_ne h2, upd_ne h1, upd_ne h2]
end
end DL
set_option Elab.async false
set_option linter.all false
set_option maxRecDepth 100000
set_option maxHeartbeats 4000000
namespace L2
open PySem PySem.Spec PyProof.Rows
section
variable {X : Cx} {a b : Expr} {ta : TE} {t : TEw} {pos : Pos}
/-- a < (x := e) -/
theorem ptw_cmpR {op : CmpOp} {r : R2} (ho : OpR X (compareOp op) r) (ha : PE X a ta) (hb : PEw X b t) (hm : behindInMarks op b = false) : PTw X (.Compare a [op] [b] pos) (fun σ H Q => ta σ H fun x H1 => t σ H1 fun y σ2 H2 => r x y H2 fun z H3 => ∃ k, z = .bl k ∧ Q k σ2 H3) := by
  refine ⟨fun pins s σ H Q I h => ?_⟩
  refine wpAny_isTrue_Compare1 (thn (ha.run pins s σ H _ I h) fun v s1 ⟨x, H1, I1, r1, q1⟩ => thn (hb.run pins s1 σ H1 _ I1 q1) fun u s2 ⟨y, σ2, H2, I2, r2, q2⟩ =>
    thn (ho pins s2 σ2 H2 x y v u _ I2 r1 r2 q2) fun c s3 ⟨z, H3, I3, r3, k, e, q3⟩ => ?_) hm
  subst e
  obtain rfl : c = Value.bool k := r3
  exact wpAny_truthy_bool ⟨σ2, H3, I3, q3⟩
end
end L2
set_option Elab.async false
set_option linter.all false
set_option maxRecDepth 100000
set_option maxHeartbeats 400000
namespace DL
open PySem PySem.Spec PyProof.Rows L2
section
variable {X : Cx} {W : WX} {a e : Expr} {op : CmpOp} {sts els : List Stmt} {δ : DEnv} {I : Iv X.K} {pos p1 p2 p3 : Pos} {κ : Ko X.K} {x' : Str}
/-- if a < (x := e): .. else: .. -/
theorem s_ifNm {r : R2} (i : Nat) (ho : OpR X (compareOp op) r)
    (h : EvX X W (κ.r δ) a δ I fun x I1 => EvX X W (κ.r δ) e δ I1 fun y I2 => Op2 X.K r x y I2 fun z I3 => ∃ k, z = .bl k ∧ (if k = true then SX X W sts (δ.set i (some y)) I3 κ else SX X W els (δ.set i (some y)) I3 κ))
    (hN : X.N.Nodup := by assumption) (hi : X.N[i]? = some x' := by rfl) (hx : Loc X.env.scope x' := by first | exact Or.inl rfl | exact Or.inr rfl)
    (hf : X.fn x' = true ∨ X.env.scope.names.lookup x' = some .local := by first | exact .inl rfl | exact .inr rfl | assumption)
    (hm : behindInMarks op (.NamedExpr (.Name x' p1) e p2) = false := by first | exact nomark _ | rfl) :
    S1 X W (.If (.Compare a [op] [.NamedExpr (.Name x' p1) e p2] p3) sts els pos) δ I κ := fun σ G H E hE s hI k =>
  PS.wp (ps_ifW (ptw_cmpR ho peC (pew_named hN hi hx (pew_of peC) hf) hm) pssC pssC)
    (h σ G H _ hE s hI (k.kx hE) fun v x G1 H1 I1 s1 t1 h1 r1 k1 => k1 σ G1 H1 _ (hE.mono s1) t1 h1 ((k.kx hE).mono s1) fun w y G2 H2 I2 s2 t2 h2 r2 k2 =>
      k2 G2 H2 v w _ t2 h2 (r1.mono s2) r2 fun z d G3 H3 I3 s3 t3 h3 r3 ⟨kk, ed, pp⟩ => by
        subst ed
        have eE := (hE.mono ((s1.trans s2).trans s3)).set (i := i) (r2.mono s3)
        refine ⟨kk, r3, ?_⟩
        cases kk with
        | true => exact (show SX X W sts _ I3 κ from pp) _ G3 H3 E eE t3 h3 (k.mono ((s1.trans s2).trans s3))
        | false => exact (show SX X W els _ I3 κ from pp) _ G3 H3 E eE t3 h3 (k.mono ((s1.trans s2).trans s3)))
end
end DL
set_option Elab.async false
set_option linter.all false
set_option maxRecDepth 100000
set_option maxHeartbeats 4000000
/-! tuples whose objects are known: made, joined, counted in -/
namespace L2
open PySem PySem.Spec PyProof.Rows
section
variable {X : Cx} {es : List Expr} {t : TA} {pos : Pos}
/-- a tuple of written items, its object known -/
def tTupB (t : TA) : TE := fun σ H Q => t σ H fun xs H1 => xs.length ≤ sizeLine ∧ ∀ p ob, H1 p = none → ob.dict = none → Q (.ref p) (upd H1 p (.frz ob (.tup xs)))
theorem pe_tupB {x1} (h : PA X es t) : PE X (.Tuple es x1 pos) (tTupB t) := by
  refine ⟨fun pins s σ H Q I hq => ?_⟩
  refine wpAny_Tuple_spliced (thn (h.run pos pins s σ H _ I hq) fun us s1 ⟨xs, H1, I1, r, z, q⟩ => ⟨by rw [← r.length]; exact z, ?_⟩)
  have hf : H1 s1.heap.objs.size = none := I1.hok.fresh (Nat.le_refl _)
  refine ⟨.ref s1.heap.objs.size, upd H1 s1.heap.objs.size (.frz { cls := .type "tuple", data := .seq us.toArray } (.tup xs)), I1.laid (t' := s1.toks) (fun b u e => Heap.get?_push_of_some _ e) (Nat.le_refl _) ?_, rfl, q _ _ hf rfl⟩
  exact ⟨Heap.get?_push_size _ rfl, z, us, r, ⟨_, Heap.get?_push_size _ rfl, rfl, _, rfl⟩⟩
/-- t + u, u not empty: t empty gives u itself -/
def rCatTB (K : PySem.W.Frag) : R2 := fun x y H Q => ∃ a b xs ys, x = .ref a ∧ y = .ref b ∧ SqT K H a xs ∧ SqT K H b ys ∧ ys ≠ [] ∧ xs.length + ys.length ≤ sizeLine ∧
  (xs = [] → Q (.ref b) H) ∧ (xs ≠ [] → ∀ p ob, H p = none → ob.dict = none → Q (.ref p) (upd H p (.frz ob (.tup (xs ++ ys)))))
theorem op_catTB : OpR X (binaryOp .Add) (rCatTB X.K) := by
  intro pins s σ H x y v u Q I rx ry h
  obtain ⟨a, b, xs, ys, rfl, rfl, ha, hb, hy, hz, q1, q2⟩ := h
  cases rx
  cases ry
  obtain ⟨its, r1, p1, _⟩ := I.tuple ha
  obtain ⟨its2, r2, p2, _⟩ := I.tuple hb
  by_cases hx : its = []
  · subst hx
    exact cat_tup0 p1 p2 ⟨.ref b, H, I, rfl, q1 (r1.nil_iff.mp rfl)⟩
  · refine HT.cat_tup p1 p2 hx (fun z => absurd (r2.nil_iff.mp z) hy) (fun z => ?_) (by rw [← r1.length, ← r2.length]; exact hz)
    refine ⟨.ref s.heap.objs.size, upd H s.heap.objs.size (.frz { cls := .type "tuple", data := .seq (its ++ its2).toArray } (.tup (xs ++ ys))), I.laid (t' := s.toks) (fun b ob q => Heap.get?_push_of_some _ q) (Nat.le_refl _) ?_, rfl, q2 (fun w => hx (r1.nil_iff.mpr w)) _ _ (I.hok.fresh (Nat.le_refl _)) rfl⟩
    exact ⟨Heap.get?_push_size _ rfl, by rw [List.length_append]; exact hz, its ++ its2, r1.append r2, ⟨_, Heap.get?_push_size _ rfl, rfl, _, rfl⟩⟩
/-- t.count(x), texts -/
def rTCount (K : PySem.W.Frag) : V → List V → Hp → VK → Prop := fun x xs H Q => ∃ (a : Addr) (ys : List Str) (k : Str), x = V.ref a ∧ xs = [.str k] ∧ SqT K H a (ys.map V.str) ∧ Q (.int (ys.count k : Nat)) H
theorem mt_tcount : MtR X "tuple.count" (rTCount X.K) := by
  intro pins s σ H x xs v us Q I rx rxs h
  obtain ⟨a, ys, k, rfl, rfl, hs, q⟩ := h
  cases rx
  obtain ⟨u, rfl, ru⟩ := rxs.one
  obtain ⟨t, rfl⟩ := (show ∃ t, u = Value.str k t from ru)
  obtain ⟨its, rv, hl, hsz⟩ := I.tuple hs
  obtain ⟨⟨cls, dd, data, sl⟩, ho, hc, n, hd⟩ := id hl
  simp only at hc hd
  subst hc hd
  have hi := strs_of_vals rv
  refine call_meets PySem.F.slot_tuple_count ⟨_, ho, rfl⟩ PySem.F.entry_tuple_count (PySem.F.args_tuple_count_2 _ _)
    (SeqAt.tuple_countAt a its.toArray n dd sl (.str k t) (isStrOf k)) ⟨ho, fun y hy => (eq_isStrOf k t hi y (by simpa using hy)).at _ _, ?_⟩
  have ec : its.toArray.toList.countP (isStrOf k) = ys.count k := by
    show its.countP _ = _
    clear hs q rv ho hl hsz
    induction hi with
    | nil => rfl
    | cons y t' r ih =>
      rw [List.countP_cons, List.count_cons, ih]
      rfl
  refine ⟨.int (ys.count k : Nat), H, I.tok _, ⟨s.toks, ?_⟩, q⟩
  show Value.int ((its.toArray.toList.countP (isStrOf k) : Nat) : Int) s.toks = Value.int ((ys.count k : Nat) : Int) s.toks
  rw [ec]
end
end L2
namespace DL
open PySem PySem.Spec PyProof.Rows L2
section
variable {X : Cx} {W : WX} {R : Rx X.K} {a b o e : Expr} {es : List Expr} {δ : DEnv} {I : Iv X.K} {P : D → Iv X.K → Prop} {pos p apos : Pos} {d z : D} {ds fs : List D} {ss : List Str} {k : Str}
theorem rep_frzB {K : PySem.W.Frag} {G H : Hp} {q : Addr} {ob : Obj} {xs : List V} (hq : H q = none) (hob : ob.dict = none) (s : Same G H) (r : Reps K G ds xs) : Rep K (upd G q (.frz ob (.tup xs))) (.tub ds) (.ref q) :=
  ⟨q, ob, xs, rfl, upd_same, hob, r.mono (Evl.Ex.new (s.free hq))⟩
/-- (e, ..) -/
theorem pv_tupB {x1} {ds : List D} (h : PVA X I es δ ds) (hl : ds.length ≤ 1000 := by first | decide | simp) : PV X I (.Tuple es x1 pos) δ (.tub ds) := fun W R P pp σ G H Q hE s hI qx q =>
  PE.wp (pe_tupB paC) (h W R (fun zs J => zs = ds ∧ J = I) ⟨rfl, rfl⟩ σ G H _ hE s hI qx fun vs zs G1 H1 I1 s1 t1 h1 r1 ⟨ed, ei⟩ => by
    subst ed ei
    refine ⟨by rw [r1.length]; exact Nat.le_trans hl (by decide), fun q1 ob hq hob => ?_⟩
    exact q _ (.tub zs) (upd G1 q1 _) (upd H1 q1 _) _ (s1.trans (Evl.Ex.new (t1.free hq))) (same_upd2 t1) (h1.keep hq t1) (rep_frzB hq hob t1 r1) pp)
/-- t + u -/
theorem p2_catTB {K : PySem.W.Frag} {I : Iv K} (hz : ds.length + fs.length ≤ 100000) (hf : fs ≠ []) : P2 K I (rCatTB K) (.tub ds) (.tub fs) (.tub (ds ++ fs)) := fun P pp G H v w Q s hI ⟨a, oa, xs, e1, e2, e3, e4⟩ ⟨b, ob, ys, g1, g2, g3, g4⟩ q => by
  subst e1 g1
  refine ⟨a, b, xs, ys, rfl, rfl, .inl (.inr ⟨oa, s _ _ e2⟩), .inl (.inr ⟨ob, s _ _ g2⟩), fun z => ?_, by rw [e4.length, g4.length]; exact Nat.le_trans hz (by decide), fun z => ?_, fun z p o2 hp ho2 => ?_⟩
  · have := g4.length
    rw [z] at this
    exact hf (List.eq_nil_of_length_eq_zero (by simpa using this.symm))
  · have hd : ds = [] := List.eq_nil_of_length_eq_zero (by rw [← e4.length, z]; rfl)
    subst hd
    exact q _ (.tub fs) G H I (Same.refl G) s hI ⟨b, ob, ys, rfl, g2, g3, g4⟩ pp
  · exact q _ (.tub (ds ++ fs)) (upd G p _) (upd H p _) I (Evl.Ex.new (s.free hp)) (same_upd2 s) (hI.keep hp s) (rep_frzB hp ho2 s (e4.append g4)) pp
/-- o.count(e), a tuple of texts -/
theorem pv_tcount (ho : PV X I o δ (.tub (ss.map D.str))) (he : PV X I e δ (.str k))
    (hbase : attributeBase o "count" X.env (eval o X.env) = eval o X.env := by rfl)
    (hfew : ((backTo pos (starEach [e] X.env)).all (fun x => !x.1) && (backToKw pos (keywordEach [] X.env)).all (fun x => x.1.isSome) && decide ([e].length + ([] : List Keyword).length + (if ([] : List Keyword).isEmpty then 0 else 1) < 30)) = true := by rfl)
    (hline : (apos.endLine == pos.line) = true := by rfl) (hst : starEach [e] X.env = (false, eval e X.env) :: starEach [] X.env := by rfl) (hpl : (backTo pos (starEach [] X.env)).any (·.1) = false := by rfl) : PV X I (.Call (.Attribute o "count" apos) [e] [] pos) δ (.int (ss.count k : Nat)) := fun W R P pp σ G H Q hE s hI qx qq =>
  PE.wp (pe_bmT PySem.F.plainAttrs_tuple PySem.F.slot_tuple_count PySem.F.type_tuple_count mt_tcount peC (pa_cons peC pa_nil hst) hbase hfew hline hst hpl) (ho W R (fun z I1 => z = .tub (ss.map D.str) ∧ I1 = I) ⟨rfl, rfl⟩ σ G H _ hE s hI qx fun v d1 G1 H1 I1 s1 t1 h1 r1 ⟨ed, ei⟩ => by
    subst ed ei
    obtain ⟨c, ob, vs, ev, e2, hob, e3⟩ := r1
    subst ev
    have e4 := repsStr e3
    subst e4
    refine ⟨⟨c, ob, _, rfl, t1 _ _ e2, hob⟩, ?_⟩
    refine he W R (fun z J => z = .str k ∧ J = I1) ⟨rfl, rfl⟩ σ G1 H1 _ (hE.mono s1) t1 h1 (qx.mono s1) fun v2 d2 G2 H2 I2 s2 t2 h2 r2 ⟨ed2, ei2⟩ => ?_
    subst ed2 ei2
    exact ⟨c, ss, k, rfl, by rw [show v2 = .str k from r2], .inl (.inr ⟨ob, t2 _ _ (s2 _ _ e2)⟩), qq _ (.int _) G2 H2 _ (s1.trans s2) t2 h2 rfl pp⟩)
/-! ### calls with keywords, for good -/
def PVK (X : Cx) (I : Iv X.K) (kws : List Keyword) (δ : DEnv) (ds : List D) : Prop := ∀ (W : WX) (R : Rx X.K) (P : List D → Iv X.K → Prop), P ds I → EvK X W R kws δ I P
theorem vk_nil : PVK X I [] δ [] := fun W R P p => ek_nil p
theorem vk_cons {nm : Option Str} {kpos : Pos} {kws : List Keyword} (h : PV X I e δ d) (t : PVK X I kws δ ds) : PVK X I (⟨nm, e, kpos⟩ :: kws) δ (d :: ds) := fun W R P p => ek_cons (h W R _ (t W R _ p))
theorem pv_defK {x : Str} {ps ks : List Str} {k n : Nat} {S : Spec X.K} {kws : List Keyword} {dds zs : List D} (F : DefK X.prog X.w X.K X.mg X.base x k ps n ks dds S) (hr : Room k X.A) (ha : PVA X I (e :: es) δ ds) (hk : PVK X I kws δ zs) (h1 : ds.length = n) (h2 : zs.length = ks.length) (hS : ∀ P : D → Iv X.K → Prop, P d I → S I (ds ++ zs ++ dds) P (fun _ _ _ => False))
    (hg : Gl X x := by rfl) (hdb : (x == ("__debug__" : Str)) = false := by decide) (hall : (backToKw pos (keywordEach kws X.env)).all (·.1.isSome) = true := by rfl) (hks : (backToKw pos (keywordEach kws X.env)).filterMap (·.1) = ks := by rfl)
    (he : starEach (e :: es) X.env = (false, eval e X.env) :: starEach es X.env := by rfl) (hpl : ((backTo pos (starEach (e :: es) X.env)).any (·.1) || (backToKw pos (keywordEach kws X.env)).any (·.1.isNone)) = false := by rfl) : PV X I (.Call (.Name x p) (e :: es) kws pos) δ d := fun W R P pp =>
  EvX.weak (ev_defK takesF F hr (ha _ _ _ (hk _ _ _ ⟨h1, h2, hS P pp⟩)) hg hdb hall hks he hpl)
end
end DL
set_option Elab.async false
set_option linter.all false
set_option maxRecDepth 100000
set_option maxHeartbeats 4000000
namespace DL
open PySem PySem.Spec PyProof.Rows L2
section
variable {P : Program} {w : World} {K : PySem.W.Frag} {mg : Str → Option Value} {base : Heap} {x qual : Str} {params : Arguments} {body : List Stmt} {scope : Scope} {f : Addr} {fd : FuncData} {ps ks : List Str} {k n : Nat} {S : Spec K} {kws : List (Str × V)}
/-- .. called with some of its keywords: those that are not given (kd) have their defaults -/
theorem DefK.ofP {dds : List D} {kd : List (Str × V)} (g : mg x = some (.ref f)) (F : FunD K x qual params body scope [] kws f fd) (ok : FnOk P w K mg base (L2.CX P w) k f fd ps (spD K S)) (hk : kws ≠ []) (hq : ∀ q ∈ kd, q ∈ kws) (hd : ∀ G, Reps K G dds (kd.map (·.2)))
    (h : ∀ (D : Addr) (doc pm : Value) (an : Option Addr) (cdv ct : Value) (us mv ws : List Value), us.length = n → mv.length = kd.length → ws.length = ks.length → KwChain D ((kd.map (·.1)).zip mv) (bindArgs (PySem.W.fnOf x qual params body scope .none (.ref D) doc pm an cdv ct) ⟨us, ks.zip ws⟩) (ps.zip (us ++ ws ++ mv))) : DefK P w K mg base x k ps n ks dds S := by
  obtain ⟨_, b⟩ := FunD.kbinds0 (ps := ps) F n ks kd (fun us ms ws => us ++ ws ++ ms) hk hq (fun r1 r2 r3 => (r1.append r3).append r2) fun D doc pm an cdv ct us mv ws h1 h2 h3 => h D doc pm an cdv ct us mv ws h1 h2 h3
  exact ⟨f, fd, _, fun vs zs => vs ++ zs ++ kd.map (·.2), kd.map (·.2), g, F.kp, ok, b, fun vs zs _ => rfl, hd⟩
end
section
variable {K : PySem.W.Frag} {G : Hp} {α : Type} {f : α → List D}
/-- a list of tuples that are known to have no dict: a list of tuples -/
theorem reps_tub : ∀ (l : List α) (vs : List V), Reps K G (l.map fun x => .tub (f x)) vs → Reps K G (l.map fun x => .tup (f x)) vs
  | [], _, h => h
  | _ :: l, _, ⟨v, vs, e, h1, h2⟩ => ⟨v, vs, e, rep_tub h1, reps_tub l vs h2⟩
theorem pv_lstTub {X : Cx} {I : Iv X.K} {e : Expr} {δ : DEnv} {l : List α} (h : PV X I e δ (.lst (l.map fun x => .tub (f x)))) : PV X I e δ (.lst (l.map fun x => .tup (f x))) := fun W R P p σ G H Q hE s hI qx q =>
  h W R (fun d J => d = .lst (l.map fun x => .tub (f x)) ∧ J = I) ⟨rfl, rfl⟩ σ G H Q hE s hI qx fun v d G1 H1 I1 s1 t1 h1 r1 ⟨ed, ei⟩ => by
    subst ed ei
    obtain ⟨a, vs, e1, e2, e3⟩ := r1
    exact q v (.lst (l.map fun x => .tup (f x))) G1 H1 _ s1 t1 h1 ⟨a, vs, e1, e2, reps_tub l vs e3⟩ p
end
end DL
set_option Elab.async false
set_option linter.all false
set_option maxRecDepth 100000
set_option maxHeartbeats 4000000
namespace LK
open PySem PySem.Spec PyProof.Rows L2 DL
def top (i : Nat) : Stmt := PySem.Challenge.pw_linesharing_k16_orders_refused.main.body.getD i (.Pass ⟨0, 0, 0, 0⟩)
abbrev m_InvalidWrite_init : Stmt := inClass (top 3) 0
theorem sc_m_InvalidWrite_init : FnScope ["self", "part"] ["self", "part"] (defScope m_InvalidWrite_init) := ⟨rfl, rfl, rfl, by decide +kernel, rfl, by decide +kernel, by decide +kernel⟩
abbrev m_InvalidCast_init : Stmt := inClass (top 4) 0
theorem sc_m_InvalidCast_init : FnScope ["self", "name", "number"] ["self", "name", "number"] (defScope m_InvalidCast_init) := ⟨rfl, rfl, rfl, by decide +kernel, rfl, by decide +kernel, by decide +kernel⟩
abbrev m_UnknownWork_init : Stmt := inClass (top 5) 0
theorem sc_m_UnknownWork_init : FnScope ["self", "name"] ["self", "name"] (defScope m_UnknownWork_init) := ⟨rfl, rfl, rfl, by decide +kernel, rfl, by decide +kernel, by decide +kernel⟩
abbrev m_Clash_init : Stmt := inClass (top 6) 0
theorem sc_m_Clash_init : FnScope ["self", "name"] ["self", "name"] (defScope m_Clash_init) := ⟨rfl, rfl, rfl, by decide +kernel, rfl, by decide +kernel, by decide +kernel⟩
abbrev m_WrongGap_init : Stmt := inClass (top 7) 0
theorem sc_m_WrongGap_init : FnScope ["self", "gap"] ["self", "gap"] (defScope m_WrongGap_init) := ⟨rfl, rfl, rfl, by decide +kernel, rfl, by decide +kernel, by decide +kernel⟩
abbrev m_WrongOrder_init : Stmt := inClass (top 8) 0
theorem sc_m_WrongOrder_init : FnScope ["self", "index"] ["self", "index"] (defScope m_WrongOrder_init) := ⟨rfl, rfl, rfl, by decide +kernel, rfl, by decide +kernel, by decide +kernel⟩
abbrev f_is_integer : Stmt := top 10
theorem sc_f_is_integer : FnScope ["value"] ["value"] (defScope f_is_integer) := ⟨rfl, rfl, rfl, by decide +kernel, rfl, by decide +kernel, by decide +kernel⟩
abbrev f_is_pair : Stmt := top 11
theorem sc_f_is_pair : FnScope ["value"] ["value"] (defScope f_is_pair) := ⟨rfl, rfl, rfl, by decide +kernel, rfl, by decide +kernel, by decide +kernel⟩
abbrev f_holds_of : Stmt := top 12
theorem sc_f_holds_of : FnScope ["cast", "holds", "gaps", "gap"] ["cast", "holds"] (defScope f_holds_of) := ⟨rfl, rfl, rfl, by decide +kernel, rfl, by decide +kernel, by decide +kernel⟩
abbrev m_Course_init : Stmt := inClass (top 14) 0
theorem sc_m_Course_init : FnScope ["self", "cast", "holds"] ["self", "cast", "holds"] (defScope m_Course_init) := ⟨rfl, rfl, rfl, by decide +kernel, rfl, by decide +kernel, by decide +kernel⟩
abbrev m_Course_start : Stmt := inClass (top 14) 1
theorem sc_m_Course_start : FnScope ["self"] ["self"] (defScope m_Course_start) := ⟨rfl, rfl, rfl, by decide +kernel, rfl, by decide +kernel, by decide +kernel⟩
abbrev m_Course_ready : Stmt := inClass (top 14) 2
theorem sc_m_Course_ready : FnScope ["self", "counts", "bound", "found", "place", "name"] ["self", "counts", "bound"] (defScope m_Course_ready) := ⟨rfl, rfl, rfl, by decide +kernel, rfl, by decide +kernel, by decide +kernel⟩
abbrev m_Course_after : Stmt := inClass (top 14) 3
theorem sc_m_Course_after : FnScope ["self", "counts", "name", "place", "bound"] ["self", "counts", "name"] (defScope m_Course_after) := ⟨rfl, rfl, rfl, by decide +kernel, rfl, by decide +kernel, by decide +kernel⟩
abbrev m_Course_next_number : Stmt := inClass (top 14) 4
abbrev m_Course_is_whole : Stmt := inClass (top 14) 5
theorem sc_m_Course_is_whole : FnScope ["self", "counts"] ["self", "counts"] (defScope m_Course_is_whole) := ⟨rfl, rfl, rfl, by decide +kernel, rfl, by decide +kernel, by decide +kernel⟩
abbrev m_Course_count_from : Stmt := inClass (top 14) 6
theorem sc_m_Course_count_from : FnScope ["self", "counts", "bound", "key", "found", "name", "later"] ["self", "counts", "bound"] (defScope m_Course_count_from) := ⟨rfl, rfl, rfl, by decide +kernel, rfl, by decide +kernel, by decide +kernel⟩
abbrev f_checked_order : Stmt := top 15
theorem sc_f_checked_order : FnScope ["cast", "order", "holds", "is_whole", "course", "counts", "bound", "index", "name"] ["cast", "order", "holds", "is_whole"] (defScope f_checked_order) := ⟨rfl, rfl, rfl, by decide +kernel, rfl, by decide +kernel, by decide +kernel⟩
abbrev f_order_number : Stmt := top 16
theorem sc_f_order_number : FnScope ["cast", "order", "holds", "kept", "names", "course", "counts", "bound", "found", "name", "other", "later"] ["cast", "order", "holds"] (defScope f_order_number) := ⟨rfl, rfl, rfl, by decide +kernel, rfl, by decide +kernel, by decide +kernel⟩
abbrev f_broken_gaps : Stmt := top 17
theorem sc_f_broken_gaps : FnScope ["cast", "order", "names", "found", "name", "k", "places", "place", "other"] ["cast", "order"] (defScope f_broken_gaps) := ⟨rfl, rfl, rfl, by decide +kernel, rfl, by decide +kernel, by decide +kernel⟩
abbrev f_is_text : Stmt := top 33
theorem sc_f_is_text : FnScope ["value", "sign"] ["value"] (defScope f_is_text) := ⟨rfl, rfl, rfl, by decide +kernel, rfl, by decide +kernel, by decide +kernel⟩
abbrev f_is_name : Stmt := top 34
theorem sc_f_is_name : FnScope ["value", "sign"] ["value"] (defScope f_is_name) := ⟨rfl, rfl, rfl, by decide +kernel, rfl, by decide +kernel, by decide +kernel⟩
abbrev f_is_one_of : Stmt := top 35
theorem sc_f_is_one_of : FnScope ["value", "words"] ["value", "words"] (defScope f_is_one_of) := ⟨rfl, rfl, rfl, by decide +kernel, rfl, by decide +kernel, by decide +kernel⟩
abbrev m_Write_init : Stmt := inClass (top 36) 1
theorem sc_m_Write_init : FnScope ["self", "kind", "text", "lead", "tail"] ["self", "kind", "text", "lead", "tail"] (defScope m_Write_init) := ⟨rfl, rfl, rfl, by decide +kernel, rfl, by decide +kernel, by decide +kernel⟩
abbrev m_Write_kind : Stmt := inClass (top 36) 2
theorem sc_m_Write_kind : FnScope ["self"] ["self"] (defScope m_Write_kind) := ⟨rfl, rfl, rfl, by decide +kernel, rfl, by decide +kernel, by decide +kernel⟩
abbrev m_Write_text : Stmt := inClass (top 36) 3
theorem sc_m_Write_text : FnScope ["self"] ["self"] (defScope m_Write_text) := ⟨rfl, rfl, rfl, by decide +kernel, rfl, by decide +kernel, by decide +kernel⟩
abbrev m_Write_lead : Stmt := inClass (top 36) 4
theorem sc_m_Write_lead : FnScope ["self"] ["self"] (defScope m_Write_lead) := ⟨rfl, rfl, rfl, by decide +kernel, rfl, by decide +kernel, by decide +kernel⟩
abbrev m_Write_tail : Stmt := inClass (top 36) 5
theorem sc_m_Write_tail : FnScope ["self"] ["self"] (defScope m_Write_tail) := ⟨rfl, rfl, rfl, by decide +kernel, rfl, by decide +kernel, by decide +kernel⟩
abbrev m_Write_stays : Stmt := inClass (top 36) 6
abbrev m_Write_len : Stmt := inClass (top 36) 7
theorem sc_m_Write_len : FnScope ["self"] ["self"] (defScope m_Write_len) := ⟨rfl, rfl, rfl, by decide +kernel, rfl, by decide +kernel, by decide +kernel⟩
abbrev m_Write_eq : Stmt := inClass (top 36) 8
theorem sc_m_Write_eq : FnScope ["self", "other"] ["self", "other"] (defScope m_Write_eq) := ⟨rfl, rfl, rfl, by decide +kernel, rfl, by decide +kernel, by decide +kernel⟩
abbrev f_look_at_writes : Stmt := top 37
theorem sc_f_look_at_writes : FnScope ["name", "writes", "kinds", "number", "kind", "is_alone", "write"] ["name", "writes"] (defScope f_look_at_writes) := ⟨rfl, rfl, rfl, by decide +kernel, rfl, by decide +kernel, by decide +kernel⟩
abbrev m_Cast_init : Stmt := inClass (top 38) 1
theorem sc_m_Cast_init : FnScope ["self", "works", "name"] ["self", "works"] (defScope m_Cast_init) := ⟨rfl, rfl, rfl, by decide +kernel, rfl, by decide +kernel, by decide +kernel⟩
abbrev m_Cast_names : Stmt := inClass (top 38) 2
theorem sc_m_Cast_names : FnScope ["self"] ["self"] (defScope m_Cast_names) := ⟨rfl, rfl, rfl, by decide +kernel, rfl, by decide +kernel, by decide +kernel⟩
abbrev m_Cast_getitem : Stmt := inClass (top 38) 3
theorem sc_m_Cast_getitem : FnScope ["self", "name"] ["self", "name"] (defScope m_Cast_getitem) := ⟨rfl, rfl, rfl, by decide +kernel, rfl, by decide +kernel, by decide +kernel⟩
abbrev m_Cast_contains : Stmt := inClass (top 38) 4
theorem sc_m_Cast_contains : FnScope ["self", "name"] ["self", "name"] (defScope m_Cast_contains) := ⟨rfl, rfl, rfl, by decide +kernel, rfl, by decide +kernel, by decide +kernel⟩
abbrev m_Cast_iter : Stmt := inClass (top 38) 5
theorem sc_m_Cast_iter : FnScope ["self"] ["self"] (defScope m_Cast_iter) := ⟨rfl, rfl, rfl, by decide +kernel, rfl, by decide +kernel, by decide +kernel⟩
abbrev m_Cast_len : Stmt := inClass (top 38) 6
theorem sc_m_Cast_len : FnScope ["self", "name", "write"] ["self"] (defScope m_Cast_len) := ⟨rfl, rfl, rfl, by decide +kernel, rfl, by decide +kernel, by decide +kernel⟩
abbrev m_Cast_eq : Stmt := inClass (top 38) 7
theorem sc_m_Cast_eq : FnScope ["self", "other"] ["self", "other"] (defScope m_Cast_eq) := ⟨rfl, rfl, rfl, by decide +kernel, rfl, by decide +kernel, by decide +kernel⟩
abbrev m_Cast_add : Stmt := inClass (top 38) 8
theorem sc_m_Cast_add : FnScope ["self", "other", "name"] ["self", "other"] (defScope m_Cast_add) := ⟨rfl, rfl, rfl, by decide +kernel, rfl, by decide +kernel, by decide +kernel⟩
abbrev m_Cast_only : Stmt := inClass (top 38) 9
abbrev m_Cast_gaps : Stmt := inClass (top 38) 10
theorem sc_m_Cast_gaps : FnScope ["self", "found", "name", "writes", "k"] ["self"] (defScope m_Cast_gaps) := ⟨rfl, rfl, rfl, by decide +kernel, rfl, by decide +kernel, by decide +kernel⟩
abbrev m_Cast_lines : Stmt := inClass (top 38) 11
abbrev f_Lmix : Stmt := top 40
theorem sc_f_Lmix : FnScope ["_law_script", "_law_seed", "_law_state", "_law_cell"] ["_law_script", "_law_seed"] (defScope f_Lmix) := ⟨rfl, rfl, rfl, by decide +kernel, rfl, by decide +kernel, by decide +kernel⟩
abbrev f_Lnext : Stmt := top 41
theorem sc_f_Lnext : FnScope ["_law_h", "_law_bound", "_law_cell"] ["_law_h", "_law_bound"] (defScope f_Lnext) := ⟨rfl, rfl, rfl, by decide +kernel, rfl, by decide +kernel, by decide +kernel⟩
abbrev f_Lletters : Stmt := top 42
theorem sc_f_Lletters : FnScope ["_law_h", "_law_most", "_law_signs", "_law_size", "_law_k"] ["_law_h", "_law_most"] (defScope f_Lletters) := ⟨rfl, rfl, rfl, by decide +kernel, rfl, by decide +kernel, by decide +kernel⟩
abbrev f_Lone : Stmt := top 43
theorem sc_f_Lone : FnScope ["_law_h", "_law_form", "_law_most", "_law_words", "_law_ahead", "_law_behind"] ["_law_h", "_law_form", "_law_most"] (defScope f_Lone) := ⟨rfl, rfl, rfl, by decide +kernel, rfl, by decide +kernel, by decide +kernel⟩
abbrev f_Lrowof : Stmt := top 44
theorem sc_f_Lrowof : FnScope ["_law_h", "_law_many", "_law_most", "_law_found", "_law_form"] ["_law_h", "_law_many", "_law_most"] (defScope f_Lrowof) := ⟨rfl, rfl, rfl, by decide +kernel, rfl, by decide +kernel, by decide +kernel⟩
abbrev f_Ltable : Stmt := top 45
theorem sc_f_Ltable : FnScope ["_law_h", "_law_works", "_law_total", "_law_most", "_law_found", "_law_left", "_law_name", "_law_many"] ["_law_h", "_law_works", "_law_total", "_law_most"] (defScope f_Ltable) := ⟨rfl, rfl, rfl, by decide +kernel, rfl, by decide +kernel, by decide +kernel⟩
abbrev f_Lbuilt : Stmt := top 46
theorem sc_f_Lbuilt : FnScope ["_law_t", "_law_made", "_law_name", "_law_one_here"] ["_law_t"] (defScope f_Lbuilt) := ⟨rfl, rfl, rfl, by decide +kernel, rfl, by decide +kernel, by decide +kernel⟩
abbrev f_Lgapsof : Stmt := top 47
theorem sc_f_Lgapsof : FnScope ["_law_t", "_law_found", "_law_name", "_law_k"] ["_law_t"] (defScope f_Lgapsof) := ⟨rfl, rfl, rfl, by decide +kernel, rfl, by decide +kernel, by decide +kernel⟩
abbrev f_Lsome : Stmt := top 48
theorem sc_f_Lsome : FnScope ["_law_h", "_law_things", "_law_turn", "_law_thing"] ["_law_h", "_law_things"] (defScope f_Lsome) := ⟨rfl, rfl, rfl, by decide +kernel, rfl, by decide +kernel, by decide +kernel⟩
abbrev f_Lbeginning : Stmt := top 49
theorem sc_f_Lbeginning : FnScope ["_law_h", "_law_t", "_law_held", "_law_found", "_law_most", "_law_last", "_law_able", "_law_name"] ["_law_h", "_law_t", "_law_held"] (defScope f_Lbeginning) := ⟨rfl, rfl, rfl, by decide +kernel, rfl, by decide +kernel, by decide +kernel⟩
abbrev f_Lwrong : Stmt := top 50
theorem sc_f_Lwrong : FnScope ["_law_t", "_law_names", "_law_held", "_law_at", "_law_last", "_law_name"] ["_law_t", "_law_names", "_law_held"] (defScope f_Lwrong) := ⟨rfl, rfl, rfl, by decide +kernel, rfl, by decide +kernel, by decide +kernel⟩
abbrev f_law : Stmt := top 51
theorem sc_f_law : FnScope ["_law_script", "_law_h", "_law_t", "_law_c", "_law_gaps", "_law_held", "_law_names", "_law_turn", "_law_passed", "_law_due", "_law_odd", "_law_one_here", "_law_told", "e", "_law_free"] ["_law_script"] (defScope f_law) := ⟨rfl, rfl, rfl, by decide +kernel, rfl, by decide +kernel, by decide +kernel⟩
def inBody (s : Stmt) (i : Nat) : Stmt := (defBody s).getD i (.Pass ⟨0, 0, 0, 0⟩)
abbrev tfL : List He.Defn := []
abbrev FnP (K : PySem.W.Frag) (x qual : Str) (st : Stmt) (f : Addr) (fd : FuncData) : Prop := FunD K x qual (defArgs st) (defBody st) (defScope st) [] [] f fd
abbrev d_m_InvalidWrite_init : He.DefD := dM "InvalidWrite" "__init__" "InvalidWrite.__init__" m_InvalidWrite_init
abbrev d_m_InvalidCast_init : He.DefD := dM "InvalidCast" "__init__" "InvalidCast.__init__" m_InvalidCast_init
abbrev d_m_UnknownWork_init : He.DefD := dM "UnknownWork" "__init__" "UnknownWork.__init__" m_UnknownWork_init
abbrev d_m_Clash_init : He.DefD := dM "Clash" "__init__" "Clash.__init__" m_Clash_init
abbrev d_m_WrongGap_init : He.DefD := dM "WrongGap" "__init__" "WrongGap.__init__" m_WrongGap_init
abbrev d_m_WrongOrder_init : He.DefD := dM "WrongOrder" "__init__" "WrongOrder.__init__" m_WrongOrder_init
abbrev d_f_is_integer : He.DefD := dF "is_integer" f_is_integer
abbrev d_f_is_pair : He.DefD := dF "is_pair" f_is_pair
abbrev d_f_holds_of : He.DefD := dF "holds_of" f_holds_of
abbrev d_m_Course_init : He.DefD := dM "Course" "__init__" "Course.__init__" m_Course_init
abbrev d_m_Course_start : He.DefD := dM "Course" "start" "Course.start" m_Course_start
abbrev d_m_Course_ready : He.DefD := dM "Course" "ready" "Course.ready" m_Course_ready
abbrev d_m_Course_after : He.DefD := dM "Course" "after" "Course.after" m_Course_after
abbrev d_m_Course_is_whole : He.DefD := dM "Course" "is_whole" "Course.is_whole" m_Course_is_whole
abbrev d_m_Course_count_from : He.DefD := dM "Course" "count_from" "Course.count_from" m_Course_count_from
abbrev d_f_checked_order : He.DefD := dF "checked_order" f_checked_order
abbrev d_f_order_number : He.DefD := dF "order_number" f_order_number [] [("holds", .adr (kwdAt ("order_number", none) "holds"))]
abbrev d_f_broken_gaps : He.DefD := dF "broken_gaps" f_broken_gaps
abbrev d_f_is_text : He.DefD := dF "is_text" f_is_text
abbrev d_f_is_name : He.DefD := dF "is_name" f_is_name
abbrev d_f_is_one_of : He.DefD := dF "is_one_of" f_is_one_of
abbrev d_m_Write_init : He.DefD := dM "Write" "__init__" "Write.__init__" m_Write_init [] [("lead", .str ""), ("tail", .str "")]
abbrev d_m_Write_kind : He.DefD := dM "Write" "kind" "Write.kind" m_Write_kind
abbrev d_m_Write_text : He.DefD := dM "Write" "text" "Write.text" m_Write_text
abbrev d_m_Write_lead : He.DefD := dM "Write" "lead" "Write.lead" m_Write_lead
abbrev d_m_Write_tail : He.DefD := dM "Write" "tail" "Write.tail" m_Write_tail
abbrev d_m_Write_len : He.DefD := dM "Write" "__len__" "Write.__len__" m_Write_len
abbrev d_m_Write_eq : He.DefD := dM "Write" "__eq__" "Write.__eq__" m_Write_eq
abbrev d_f_look_at_writes : He.DefD := dF "look_at_writes" f_look_at_writes
abbrev d_m_Cast_init : He.DefD := dM "Cast" "__init__" "Cast.__init__" m_Cast_init
abbrev d_m_Cast_names : He.DefD := dM "Cast" "names" "Cast.names" m_Cast_names
abbrev d_m_Cast_getitem : He.DefD := dM "Cast" "__getitem__" "Cast.__getitem__" m_Cast_getitem
abbrev d_m_Cast_contains : He.DefD := dM "Cast" "__contains__" "Cast.__contains__" m_Cast_contains
abbrev d_m_Cast_iter : He.DefD := dM "Cast" "__iter__" "Cast.__iter__" m_Cast_iter
abbrev d_m_Cast_len : He.DefD := dM "Cast" "__len__" "Cast.__len__" m_Cast_len
abbrev d_m_Cast_eq : He.DefD := dM "Cast" "__eq__" "Cast.__eq__" m_Cast_eq
abbrev d_m_Cast_add : He.DefD := dM "Cast" "__add__" "Cast.__add__" m_Cast_add
abbrev d_m_Cast_gaps : He.DefD := dM "Cast" "gaps" "Cast.gaps" m_Cast_gaps
abbrev d_f_Lmix : He.DefD := dF "_law_mix" f_Lmix
abbrev d_f_Lnext : He.DefD := dF "_law_next" f_Lnext
abbrev d_f_Lletters : He.DefD := dF "_law_letters" f_Lletters
abbrev d_f_Lone : He.DefD := dF "_law_one" f_Lone
abbrev d_f_Lrowof : He.DefD := dF "_law_rowof" f_Lrowof
abbrev d_f_Ltable : He.DefD := dF "_law_table" f_Ltable
abbrev d_f_Lbuilt : He.DefD := dF "_law_built" f_Lbuilt
abbrev d_f_Lgapsof : He.DefD := dF "_law_gapsof" f_Lgapsof
abbrev d_f_Lsome : He.DefD := dF "_law_some" f_Lsome
abbrev d_f_Lbeginning : He.DefD := dF "_law_beginning" f_Lbeginning
abbrev d_f_Lwrong : He.DefD := dF "_law_wrong" f_Lwrong
abbrev d_f_law : He.DefD := dF "law" f_law
abbrev fnL : List He.DefD := [d_m_InvalidWrite_init, d_m_InvalidCast_init, d_m_UnknownWork_init, d_m_Clash_init, d_m_WrongGap_init, d_m_WrongOrder_init, d_f_is_integer, d_f_is_pair, d_f_holds_of, d_m_Course_init, d_m_Course_start, d_m_Course_ready, d_m_Course_after, d_m_Course_is_whole, d_m_Course_count_from, d_f_checked_order, d_f_order_number, d_f_broken_gaps, d_f_is_text, d_f_is_name, d_f_is_one_of, d_m_Write_init, d_m_Write_len, d_m_Write_eq, d_f_look_at_writes, d_m_Cast_init, d_m_Cast_getitem, d_m_Cast_contains, d_m_Cast_iter, d_m_Cast_len, d_m_Cast_eq, d_m_Cast_add, d_m_Cast_gaps, d_f_Lmix, d_f_Lnext, d_f_Lletters, d_f_Lone, d_f_Lrowof, d_f_Ltable, d_f_Lbuilt, d_f_Lgapsof, d_f_Lsome, d_f_Lbeginning, d_f_Lwrong, d_f_law]
abbrev gsL : List He.DefD := [d_m_Write_kind, d_m_Write_text, d_m_Write_lead, d_m_Write_tail, d_m_Cast_names]
def lk0 (K : PySem.W.Frag) : List Bool := [(He.Fa.free "isinstance").ok K,
  (He.Fa.free "str").ok K,
  (He.Fa.free "int").ok K,
  (He.Fa.free "bool").ok K,
  (He.Fa.free "list").ok K,
  (He.Fa.free "tuple").ok K,
  (He.Fa.free "dict").ok K,
  (He.Fa.free "len").ok K,
  (He.Fa.free "all").ok K,
  (He.Fa.free "any").ok K,
  (He.Fa.free "sum").ok K,
  (He.Fa.free "max").ok K,
  (He.Fa.free "min").ok K,
  (He.Fa.free "range").ok K,
  (He.Fa.free "sorted").ok K,
  (He.Fa.free "reversed").ok K,
  (He.Fa.free "enumerate").ok K,
  (He.Fa.free "set").ok K,
  (He.Fa.free "ValueError").ok K,
  (He.Fa.free "TypeError").ok K]
def lk1 (K : PySem.W.Frag) : List Bool := [(He.Fa.free "super").ok K,
  (He.Fa.glo "is_integer").ok K,
  (He.Fa.glo "is_pair").ok K,
  (He.Fa.glo "holds_of").ok K,
  (He.Fa.glo "checked_order").ok K,
  (He.Fa.glo "order_number").ok K,
  (He.Fa.glo "broken_gaps").ok K,
  (He.Fa.glo "is_text").ok K,
  (He.Fa.glo "is_name").ok K,
  (He.Fa.glo "is_one_of").ok K,
  (He.Fa.glo "look_at_writes").ok K,
  (He.Fa.glo "_law_mix").ok K,
  (He.Fa.glo "_law_next").ok K,
  (He.Fa.glo "_law_letters").ok K,
  (He.Fa.glo "_law_one").ok K,
  (He.Fa.glo "_law_rowof").ok K,
  (He.Fa.glo "_law_table").ok K,
  (He.Fa.glo "_law_built").ok K,
  (He.Fa.glo "_law_gapsof").ok K,
  (He.Fa.glo "_law_some").ok K]
def lk2 (K : PySem.W.Frag) : List Bool := [(He.Fa.glo "_law_beginning").ok K,
  (He.Fa.glo "_law_wrong").ok K,
  (He.Fa.glo "law").ok K,
  (He.Fa.glo "LineError").ok K,
  (He.Fa.glo "InvalidWrite").ok K,
  (He.Fa.glo "InvalidCast").ok K,
  (He.Fa.glo "UnknownWork").ok K,
  (He.Fa.glo "Clash").ok K,
  (He.Fa.glo "WrongGap").ok K,
  (He.Fa.glo "WrongOrder").ok K,
  (He.Fa.glo "Course").ok K,
  (He.Fa.glo "Write").ok K,
  (He.Fa.glo "Cast").ok K,
  PySem.W.keepIn K (.ref (He.ga K "is_integer")),
  PySem.W.keepIn K (.ref (He.ga K "is_pair")),
  PySem.W.keepIn K (.ref (He.ga K "holds_of")),
  PySem.W.keepIn K (.ref (He.ga K "checked_order")),
  PySem.W.keepIn K (.ref (He.ga K "order_number")),
  PySem.W.keepIn K (.ref (He.ga K "broken_gaps")),
  PySem.W.keepIn K (.ref (He.ga K "is_text"))]
def lk3 (K : PySem.W.Frag) : List Bool := [PySem.W.keepIn K (.ref (He.ga K "is_name")),
  PySem.W.keepIn K (.ref (He.ga K "is_one_of")),
  PySem.W.keepIn K (.ref (He.ga K "look_at_writes")),
  PySem.W.keepIn K (.ref (He.ga K "_law_mix")),
  PySem.W.keepIn K (.ref (He.ga K "_law_next")),
  PySem.W.keepIn K (.ref (He.ga K "_law_letters")),
  PySem.W.keepIn K (.ref (He.ga K "_law_one")),
  PySem.W.keepIn K (.ref (He.ga K "_law_rowof")),
  PySem.W.keepIn K (.ref (He.ga K "_law_table")),
  PySem.W.keepIn K (.ref (He.ga K "_law_built")),
  PySem.W.keepIn K (.ref (He.ga K "_law_gapsof")),
  PySem.W.keepIn K (.ref (He.ga K "_law_some")),
  PySem.W.keepIn K (.ref (He.ga K "_law_beginning")),
  PySem.W.keepIn K (.ref (He.ga K "_law_wrong")),
  PySem.W.keepIn K (.ref (He.ga K "law")),
  (He.Fa.str "LETTERS" ("abcdefghijklmnopqrstuvwxyz")).ok K,
  (He.Fa.str "FIGURES" ("0123456789")).ok K,
  (He.Fa.str "SIGNS" (Str.ofString ("abcdefghijklmnopqrstuvwxyzABCDEFGHIJKLMNOPQRSTUVWXYZ0123456789 !\"#$&'()*+,-./:;<=>?@" ++ "[\\]^_`{|}~"))).ok K,
  (He.Fa.str "SAY" ("say")).ok K,
  (He.Fa.str "ASK" ("ask")).ok K]
def lk4 (K : PySem.W.Frag) : List Bool := [(He.Fa.str "REPLY" ("reply")).ok K,
  (He.Fa.str "SHOW" ("show")).ok K,
  (He.tupB K "KINDS" [He.Dv.str "say", He.Dv.str "ask", He.Dv.str "reply", He.Dv.str "show"] && He.eqO (PySem.W.nsIn K mainGlobals "KINDS") (some (some (.ref (He.ga K "KINDS"))))),
  (He.tupB K "LEADS" [He.Dv.str "", He.Dv.str "return", He.Dv.str "wipe", He.Dv.str "fresh"] && He.eqO (PySem.W.nsIn K mainGlobals "LEADS") (some (some (.ref (He.ga K "LEADS"))))),
  (He.tupB K "TAILS" [He.Dv.str "", He.Dv.str "erase", He.Dv.str "newline"] && He.eqO (PySem.W.nsIn K mainGlobals "TAILS") (some (some (.ref (He.ga K "TAILS"))))),
  (He.Fa.int "MOST_SIGNS" 40).ok K,
  (He.Fa.int "MOST_NAME" 8).ok K,
  (He.Fa.int "MOST_WORKS" 6).ok K,
  (He.Fa.int "MOST_WRITES" 8).ok K,
  exB K "InvalidWrite",
  txB K (He.ga K "InvalidWrite"),
  (He.Fa.noat "InvalidWrite" "part").ok K,
  (He.Fa.exm "InvalidWrite" "WrongGap" false).ok K,
  (He.Fa.exm "InvalidWrite" "WrongOrder" false).ok K,
  decide (PySem.W.kitOne K (.ref (He.ga K "InvalidWrite")) (.ref (He.ga K "LineError")) = some true),
  exB K "InvalidCast",
  txB K (He.ga K "InvalidCast"),
  (He.Fa.noat "InvalidCast" "name").ok K,
  (He.Fa.noat "InvalidCast" "number").ok K,
  (He.Fa.exm "InvalidCast" "WrongGap" false).ok K]
def lk5 (K : PySem.W.Frag) : List Bool := [(He.Fa.exm "InvalidCast" "WrongOrder" false).ok K,
  decide (PySem.W.kitOne K (.ref (He.ga K "InvalidCast")) (.ref (He.ga K "LineError")) = some true),
  exB K "UnknownWork",
  txB K (He.ga K "UnknownWork"),
  (He.Fa.noat "UnknownWork" "name").ok K,
  (He.Fa.exm "UnknownWork" "WrongGap" false).ok K,
  (He.Fa.exm "UnknownWork" "WrongOrder" false).ok K,
  decide (PySem.W.kitOne K (.ref (He.ga K "UnknownWork")) (.ref (He.ga K "LineError")) = some true),
  exB K "Clash",
  txB K (He.ga K "Clash"),
  (He.Fa.noat "Clash" "name").ok K,
  (He.Fa.exm "Clash" "WrongGap" false).ok K,
  (He.Fa.exm "Clash" "WrongOrder" false).ok K,
  decide (PySem.W.kitOne K (.ref (He.ga K "Clash")) (.ref (He.ga K "LineError")) = some true),
  exB K "WrongGap",
  txB K (He.ga K "WrongGap"),
  (He.Fa.noat "WrongGap" "gap").ok K,
  (He.Fa.exm "WrongGap" "WrongGap" true).ok K,
  (He.Fa.exm "WrongGap" "WrongOrder" false).ok K,
  decide (PySem.W.kitOne K (.ref (He.ga K "WrongGap")) (.ref (He.ga K "LineError")) = some true)]
def lk6 (K : PySem.W.Frag) : List Bool := [exB K "WrongOrder",
  txB K (He.ga K "WrongOrder"),
  (He.Fa.noat "WrongOrder" "index").ok K,
  (He.Fa.exm "WrongOrder" "WrongGap" false).ok K,
  (He.Fa.exm "WrongOrder" "WrongOrder" true).ok K,
  decide (PySem.W.kitOne K (.ref (He.ga K "WrongOrder")) (.ref (He.ga K "LineError")) = some true),
  (He.Fa.mkr "Course").ok K,
  (He.Fa.meth "Course" "__init__").ok K,
  (He.Fa.meth "Course" "start").ok K,
  (He.Fa.meth "Course" "ready").ok K,
  (He.Fa.meth "Course" "after").ok K,
  (He.Fa.meth "Course" "is_whole").ok K,
  (He.Fa.meth "Course" "count_from").ok K,
  (He.Fa.cls "Course").ok K,
  (He.Fa.noat "Course" "troupe").ok K,
  (He.Fa.noat "Course" "titles").ok K,
  (He.Fa.noat "Course" "holds").ok K,
  (He.Fa.noat "Course" "many").ok K,
  (He.Fa.mkr "Write").ok K,
  (He.Fa.meth "Write" "__init__").ok K]
def lk7 (K : PySem.W.Frag) : List Bool := [prB K (He.ga K "Write") "kind",
  prB K (He.ga K "Write") "text",
  prB K (He.ga K "Write") "lead",
  prB K (He.ga K "Write") "tail",
  (He.Fa.meth "Write" "__len__").ok K,
  (He.Fa.meth "Write" "__eq__").ok K,
  tclB K (He.ga K "Write"),
  slB K (He.ga K "Write") "mode" 2,
  slB K (He.ga K "Write") "signs" 3,
  slB K (He.ga K "Write") "ahead" 0,
  slB K (He.ga K "Write") "behind" 1,
  decide (PySem.W.kitOne K (.ref (He.ga K "Write")) (.ref (He.ga K "Cast")) = some false),
  (He.Fa.mkr "Cast").ok K,
  (He.Fa.meth "Cast" "__init__").ok K,
  prB K (He.ga K "Cast") "names",
  PySem.W.fnIn K (He.ma K (He.ga K "Cast") "__getitem__"),
  (He.Fa.meth "Cast" "__getitem__").ok K,
  (He.Fa.meth "Cast" "__contains__").ok K,
  (He.Fa.meth "Cast" "__iter__").ok K,
  (He.Fa.meth "Cast" "__len__").ok K]
def lk8 (K : PySem.W.Frag) : List Bool := [(He.Fa.meth "Cast" "__eq__").ok K,
  PySem.W.selfFirst K (He.ga K "Cast"),
  (He.Fa.meth "Cast" "__add__").ok K,
  (He.Fa.meth "Cast" "gaps").ok K,
  tclB K (He.ga K "Cast"),
  slB K (He.ga K "Cast") "table" 0,
  decide (PySem.W.kitOne K (.ref (He.ga K "Cast")) (.ref (He.ga K "Write")) = some false),
  emptB K (kwdAt ("order_number", none) "holds" K)]
def lkL (K : PySem.W.Frag) : Bool := (lk0 K).all id && ((lk1 K).all id && ((lk2 K).all id && ((lk3 K).all id && ((lk4 K).all id && ((lk5 K).all id && ((lk6 K).all id && ((lk7 K).all id && ((lk8 K).all id))))))))
structure Env (P : Program) (w : World) (K : PySem.W.Frag) (mg : Str → Option Value) (base : Heap) : Prop where
  lk : lkL K = true
  hp : ∃ h, K.In h ∧ h.Ns mainGlobals mg
  has : ∀ d ∈ fnL, Has K d
  hasG : ∀ d ∈ gsL, HasG K d
  tb : ∀ p ∈ tfL, LamX.TabB base mg (He.cT K p).1 (He.cT K p).2
section
variable {P : Program} {w : World} {K : PySem.W.Frag} {mg : Str → Option Value} {base : Heap}
theorem Env.lk0 (E : Env P w K mg base) : (lk0 K).all id = true := (He.ba E.lk).1
theorem Env.lk1 (E : Env P w K mg base) : (lk1 K).all id = true := (He.ba (He.ba E.lk).2).1
theorem Env.lk2 (E : Env P w K mg base) : (lk2 K).all id = true := (He.ba (He.ba (He.ba E.lk).2).2).1
theorem Env.lk3 (E : Env P w K mg base) : (lk3 K).all id = true := (He.ba (He.ba (He.ba (He.ba E.lk).2).2).2).1
theorem Env.lk4 (E : Env P w K mg base) : (lk4 K).all id = true := (He.ba (He.ba (He.ba (He.ba (He.ba E.lk).2).2).2).2).1
theorem Env.lk5 (E : Env P w K mg base) : (lk5 K).all id = true := (He.ba (He.ba (He.ba (He.ba (He.ba (He.ba E.lk).2).2).2).2).2).1
theorem Env.lk6 (E : Env P w K mg base) : (lk6 K).all id = true := (He.ba (He.ba (He.ba (He.ba (He.ba (He.ba (He.ba E.lk).2).2).2).2).2).2).1
theorem Env.lk7 (E : Env P w K mg base) : (lk7 K).all id = true := (He.ba (He.ba (He.ba (He.ba (He.ba (He.ba (He.ba (He.ba E.lk).2).2).2).2).2).2).2).1
theorem Env.lk8 (E : Env P w K mg base) : (lk8 K).all id = true := (He.ba (He.ba (He.ba (He.ba (He.ba (He.ba (He.ba (He.ba E.lk).2).2).2).2).2).2).2).2
theorem Env.b_isinstance (E : Env P w K mg base) : mg "isinstance" = none := by
  obtain ⟨h, X, G⟩ := E.hp
  exact He.free_ok X G (all_at (E.lk0) 0 (by rfl))
theorem Env.b_str (E : Env P w K mg base) : mg "str" = none := by
  obtain ⟨h, X, G⟩ := E.hp
  exact He.free_ok X G (all_at (E.lk0) 1 (by rfl))
theorem Env.b_int (E : Env P w K mg base) : mg "int" = none := by
  obtain ⟨h, X, G⟩ := E.hp
  exact He.free_ok X G (all_at (E.lk0) 2 (by rfl))
theorem Env.b_bool (E : Env P w K mg base) : mg "bool" = none := by
  obtain ⟨h, X, G⟩ := E.hp
  exact He.free_ok X G (all_at (E.lk0) 3 (by rfl))
theorem Env.b_list (E : Env P w K mg base) : mg "list" = none := by
  obtain ⟨h, X, G⟩ := E.hp
  exact He.free_ok X G (all_at (E.lk0) 4 (by rfl))
theorem Env.b_tuple (E : Env P w K mg base) : mg "tuple" = none := by
  obtain ⟨h, X, G⟩ := E.hp
  exact He.free_ok X G (all_at (E.lk0) 5 (by rfl))
theorem Env.b_dict (E : Env P w K mg base) : mg "dict" = none := by
  obtain ⟨h, X, G⟩ := E.hp
  exact He.free_ok X G (all_at (E.lk0) 6 (by rfl))
theorem Env.b_len (E : Env P w K mg base) : mg "len" = none := by
  obtain ⟨h, X, G⟩ := E.hp
  exact He.free_ok X G (all_at (E.lk0) 7 (by rfl))
theorem Env.b_all (E : Env P w K mg base) : mg "all" = none := by
  obtain ⟨h, X, G⟩ := E.hp
  exact He.free_ok X G (all_at (E.lk0) 8 (by rfl))
theorem Env.b_any (E : Env P w K mg base) : mg "any" = none := by
  obtain ⟨h, X, G⟩ := E.hp
  exact He.free_ok X G (all_at (E.lk0) 9 (by rfl))
theorem Env.b_sum (E : Env P w K mg base) : mg "sum" = none := by
  obtain ⟨h, X, G⟩ := E.hp
  exact He.free_ok X G (all_at (E.lk0) 10 (by rfl))
theorem Env.b_max (E : Env P w K mg base) : mg "max" = none := by
  obtain ⟨h, X, G⟩ := E.hp
  exact He.free_ok X G (all_at (E.lk0) 11 (by rfl))
theorem Env.b_min (E : Env P w K mg base) : mg "min" = none := by
  obtain ⟨h, X, G⟩ := E.hp
  exact He.free_ok X G (all_at (E.lk0) 12 (by rfl))
theorem Env.b_range (E : Env P w K mg base) : mg "range" = none := by
  obtain ⟨h, X, G⟩ := E.hp
  exact He.free_ok X G (all_at (E.lk0) 13 (by rfl))
theorem Env.b_sorted (E : Env P w K mg base) : mg "sorted" = none := by
  obtain ⟨h, X, G⟩ := E.hp
  exact He.free_ok X G (all_at (E.lk0) 14 (by rfl))
theorem Env.b_reversed (E : Env P w K mg base) : mg "reversed" = none := by
  obtain ⟨h, X, G⟩ := E.hp
  exact He.free_ok X G (all_at (E.lk0) 15 (by rfl))
theorem Env.b_enumerate (E : Env P w K mg base) : mg "enumerate" = none := by
  obtain ⟨h, X, G⟩ := E.hp
  exact He.free_ok X G (all_at (E.lk0) 16 (by rfl))
theorem Env.b_set (E : Env P w K mg base) : mg "set" = none := by
  obtain ⟨h, X, G⟩ := E.hp
  exact He.free_ok X G (all_at (E.lk0) 17 (by rfl))
theorem Env.b_ValueError (E : Env P w K mg base) : mg "ValueError" = none := by
  obtain ⟨h, X, G⟩ := E.hp
  exact He.free_ok X G (all_at (E.lk0) 18 (by rfl))
theorem Env.b_TypeError (E : Env P w K mg base) : mg "TypeError" = none := by
  obtain ⟨h, X, G⟩ := E.hp
  exact He.free_ok X G (all_at (E.lk0) 19 (by rfl))
theorem Env.b_super (E : Env P w K mg base) : mg "super" = none := by
  obtain ⟨h, X, G⟩ := E.hp
  exact He.free_ok X G (all_at (E.lk1) 0 (by rfl))
theorem Env.g_is_integer (E : Env P w K mg base) : mg "is_integer" = some (.ref (He.ga K "is_integer")) := by
  obtain ⟨h, X, G⟩ := E.hp
  exact He.glo_ok X G (all_at (E.lk1) 1 (by rfl))
theorem Env.g_is_pair (E : Env P w K mg base) : mg "is_pair" = some (.ref (He.ga K "is_pair")) := by
  obtain ⟨h, X, G⟩ := E.hp
  exact He.glo_ok X G (all_at (E.lk1) 2 (by rfl))
theorem Env.g_holds_of (E : Env P w K mg base) : mg "holds_of" = some (.ref (He.ga K "holds_of")) := by
  obtain ⟨h, X, G⟩ := E.hp
  exact He.glo_ok X G (all_at (E.lk1) 3 (by rfl))
theorem Env.g_checked_order (E : Env P w K mg base) : mg "checked_order" = some (.ref (He.ga K "checked_order")) := by
  obtain ⟨h, X, G⟩ := E.hp
  exact He.glo_ok X G (all_at (E.lk1) 4 (by rfl))
theorem Env.g_order_number (E : Env P w K mg base) : mg "order_number" = some (.ref (He.ga K "order_number")) := by
  obtain ⟨h, X, G⟩ := E.hp
  exact He.glo_ok X G (all_at (E.lk1) 5 (by rfl))
theorem Env.g_broken_gaps (E : Env P w K mg base) : mg "broken_gaps" = some (.ref (He.ga K "broken_gaps")) := by
  obtain ⟨h, X, G⟩ := E.hp
  exact He.glo_ok X G (all_at (E.lk1) 6 (by rfl))
theorem Env.g_is_text (E : Env P w K mg base) : mg "is_text" = some (.ref (He.ga K "is_text")) := by
  obtain ⟨h, X, G⟩ := E.hp
  exact He.glo_ok X G (all_at (E.lk1) 7 (by rfl))
theorem Env.g_is_name (E : Env P w K mg base) : mg "is_name" = some (.ref (He.ga K "is_name")) := by
  obtain ⟨h, X, G⟩ := E.hp
  exact He.glo_ok X G (all_at (E.lk1) 8 (by rfl))
theorem Env.g_is_one_of (E : Env P w K mg base) : mg "is_one_of" = some (.ref (He.ga K "is_one_of")) := by
  obtain ⟨h, X, G⟩ := E.hp
  exact He.glo_ok X G (all_at (E.lk1) 9 (by rfl))
theorem Env.g_look_at_writes (E : Env P w K mg base) : mg "look_at_writes" = some (.ref (He.ga K "look_at_writes")) := by
  obtain ⟨h, X, G⟩ := E.hp
  exact He.glo_ok X G (all_at (E.lk1) 10 (by rfl))
theorem Env.g__law_mix (E : Env P w K mg base) : mg "_law_mix" = some (.ref (He.ga K "_law_mix")) := by
  obtain ⟨h, X, G⟩ := E.hp
  exact He.glo_ok X G (all_at (E.lk1) 11 (by rfl))
theorem Env.g__law_next (E : Env P w K mg base) : mg "_law_next" = some (.ref (He.ga K "_law_next")) := by
  obtain ⟨h, X, G⟩ := E.hp
  exact He.glo_ok X G (all_at (E.lk1) 12 (by rfl))
theorem Env.g__law_letters (E : Env P w K mg base) : mg "_law_letters" = some (.ref (He.ga K "_law_letters")) := by
  obtain ⟨h, X, G⟩ := E.hp
  exact He.glo_ok X G (all_at (E.lk1) 13 (by rfl))
theorem Env.g__law_one (E : Env P w K mg base) : mg "_law_one" = some (.ref (He.ga K "_law_one")) := by
  obtain ⟨h, X, G⟩ := E.hp
  exact He.glo_ok X G (all_at (E.lk1) 14 (by rfl))
theorem Env.g__law_rowof (E : Env P w K mg base) : mg "_law_rowof" = some (.ref (He.ga K "_law_rowof")) := by
  obtain ⟨h, X, G⟩ := E.hp
  exact He.glo_ok X G (all_at (E.lk1) 15 (by rfl))
theorem Env.g__law_table (E : Env P w K mg base) : mg "_law_table" = some (.ref (He.ga K "_law_table")) := by
  obtain ⟨h, X, G⟩ := E.hp
  exact He.glo_ok X G (all_at (E.lk1) 16 (by rfl))
theorem Env.g__law_built (E : Env P w K mg base) : mg "_law_built" = some (.ref (He.ga K "_law_built")) := by
  obtain ⟨h, X, G⟩ := E.hp
  exact He.glo_ok X G (all_at (E.lk1) 17 (by rfl))
theorem Env.g__law_gapsof (E : Env P w K mg base) : mg "_law_gapsof" = some (.ref (He.ga K "_law_gapsof")) := by
  obtain ⟨h, X, G⟩ := E.hp
  exact He.glo_ok X G (all_at (E.lk1) 18 (by rfl))
theorem Env.g__law_some (E : Env P w K mg base) : mg "_law_some" = some (.ref (He.ga K "_law_some")) := by
  obtain ⟨h, X, G⟩ := E.hp
  exact He.glo_ok X G (all_at (E.lk1) 19 (by rfl))
theorem Env.g__law_beginning (E : Env P w K mg base) : mg "_law_beginning" = some (.ref (He.ga K "_law_beginning")) := by
  obtain ⟨h, X, G⟩ := E.hp
  exact He.glo_ok X G (all_at (E.lk2) 0 (by rfl))
theorem Env.g__law_wrong (E : Env P w K mg base) : mg "_law_wrong" = some (.ref (He.ga K "_law_wrong")) := by
  obtain ⟨h, X, G⟩ := E.hp
  exact He.glo_ok X G (all_at (E.lk2) 1 (by rfl))
theorem Env.g_law (E : Env P w K mg base) : mg "law" = some (.ref (He.ga K "law")) := by
  obtain ⟨h, X, G⟩ := E.hp
  exact He.glo_ok X G (all_at (E.lk2) 2 (by rfl))
theorem Env.g_LineError (E : Env P w K mg base) : mg "LineError" = some (.ref (He.ga K "LineError")) := by
  obtain ⟨h, X, G⟩ := E.hp
  exact He.glo_ok X G (all_at (E.lk2) 3 (by rfl))
theorem Env.g_InvalidWrite (E : Env P w K mg base) : mg "InvalidWrite" = some (.ref (He.ga K "InvalidWrite")) := by
  obtain ⟨h, X, G⟩ := E.hp
  exact He.glo_ok X G (all_at (E.lk2) 4 (by rfl))
theorem Env.g_InvalidCast (E : Env P w K mg base) : mg "InvalidCast" = some (.ref (He.ga K "InvalidCast")) := by
  obtain ⟨h, X, G⟩ := E.hp
  exact He.glo_ok X G (all_at (E.lk2) 5 (by rfl))
theorem Env.g_UnknownWork (E : Env P w K mg base) : mg "UnknownWork" = some (.ref (He.ga K "UnknownWork")) := by
  obtain ⟨h, X, G⟩ := E.hp
  exact He.glo_ok X G (all_at (E.lk2) 6 (by rfl))
theorem Env.g_Clash (E : Env P w K mg base) : mg "Clash" = some (.ref (He.ga K "Clash")) := by
  obtain ⟨h, X, G⟩ := E.hp
  exact He.glo_ok X G (all_at (E.lk2) 7 (by rfl))
theorem Env.g_WrongGap (E : Env P w K mg base) : mg "WrongGap" = some (.ref (He.ga K "WrongGap")) := by
  obtain ⟨h, X, G⟩ := E.hp
  exact He.glo_ok X G (all_at (E.lk2) 8 (by rfl))
theorem Env.g_WrongOrder (E : Env P w K mg base) : mg "WrongOrder" = some (.ref (He.ga K "WrongOrder")) := by
  obtain ⟨h, X, G⟩ := E.hp
  exact He.glo_ok X G (all_at (E.lk2) 9 (by rfl))
theorem Env.g_Course (E : Env P w K mg base) : mg "Course" = some (.ref (He.ga K "Course")) := by
  obtain ⟨h, X, G⟩ := E.hp
  exact He.glo_ok X G (all_at (E.lk2) 10 (by rfl))
theorem Env.g_Write (E : Env P w K mg base) : mg "Write" = some (.ref (He.ga K "Write")) := by
  obtain ⟨h, X, G⟩ := E.hp
  exact He.glo_ok X G (all_at (E.lk2) 11 (by rfl))
theorem Env.g_Cast (E : Env P w K mg base) : mg "Cast" = some (.ref (He.ga K "Cast")) := by
  obtain ⟨h, X, G⟩ := E.hp
  exact He.glo_ok X G (all_at (E.lk2) 12 (by rfl))
theorem Env.kp_is_integer (E : Env P w K mg base) : PySem.W.keepIn K (.ref (He.ga K "is_integer")) = true := all_at (E.lk2) 13 (by rfl)
theorem Env.kp_is_pair (E : Env P w K mg base) : PySem.W.keepIn K (.ref (He.ga K "is_pair")) = true := all_at (E.lk2) 14 (by rfl)
theorem Env.kp_holds_of (E : Env P w K mg base) : PySem.W.keepIn K (.ref (He.ga K "holds_of")) = true := all_at (E.lk2) 15 (by rfl)
theorem Env.kp_checked_order (E : Env P w K mg base) : PySem.W.keepIn K (.ref (He.ga K "checked_order")) = true := all_at (E.lk2) 16 (by rfl)
theorem Env.kp_order_number (E : Env P w K mg base) : PySem.W.keepIn K (.ref (He.ga K "order_number")) = true := all_at (E.lk2) 17 (by rfl)
theorem Env.kp_broken_gaps (E : Env P w K mg base) : PySem.W.keepIn K (.ref (He.ga K "broken_gaps")) = true := all_at (E.lk2) 18 (by rfl)
theorem Env.kp_is_text (E : Env P w K mg base) : PySem.W.keepIn K (.ref (He.ga K "is_text")) = true := all_at (E.lk2) 19 (by rfl)
theorem Env.kp_is_name (E : Env P w K mg base) : PySem.W.keepIn K (.ref (He.ga K "is_name")) = true := all_at (E.lk3) 0 (by rfl)
theorem Env.kp_is_one_of (E : Env P w K mg base) : PySem.W.keepIn K (.ref (He.ga K "is_one_of")) = true := all_at (E.lk3) 1 (by rfl)
theorem Env.kp_look_at_writes (E : Env P w K mg base) : PySem.W.keepIn K (.ref (He.ga K "look_at_writes")) = true := all_at (E.lk3) 2 (by rfl)
theorem Env.kp__law_mix (E : Env P w K mg base) : PySem.W.keepIn K (.ref (He.ga K "_law_mix")) = true := all_at (E.lk3) 3 (by rfl)
theorem Env.kp__law_next (E : Env P w K mg base) : PySem.W.keepIn K (.ref (He.ga K "_law_next")) = true := all_at (E.lk3) 4 (by rfl)
theorem Env.kp__law_letters (E : Env P w K mg base) : PySem.W.keepIn K (.ref (He.ga K "_law_letters")) = true := all_at (E.lk3) 5 (by rfl)
theorem Env.kp__law_one (E : Env P w K mg base) : PySem.W.keepIn K (.ref (He.ga K "_law_one")) = true := all_at (E.lk3) 6 (by rfl)
theorem Env.kp__law_rowof (E : Env P w K mg base) : PySem.W.keepIn K (.ref (He.ga K "_law_rowof")) = true := all_at (E.lk3) 7 (by rfl)
theorem Env.kp__law_table (E : Env P w K mg base) : PySem.W.keepIn K (.ref (He.ga K "_law_table")) = true := all_at (E.lk3) 8 (by rfl)
theorem Env.kp__law_built (E : Env P w K mg base) : PySem.W.keepIn K (.ref (He.ga K "_law_built")) = true := all_at (E.lk3) 9 (by rfl)
theorem Env.kp__law_gapsof (E : Env P w K mg base) : PySem.W.keepIn K (.ref (He.ga K "_law_gapsof")) = true := all_at (E.lk3) 10 (by rfl)
theorem Env.kp__law_some (E : Env P w K mg base) : PySem.W.keepIn K (.ref (He.ga K "_law_some")) = true := all_at (E.lk3) 11 (by rfl)
theorem Env.kp__law_beginning (E : Env P w K mg base) : PySem.W.keepIn K (.ref (He.ga K "_law_beginning")) = true := all_at (E.lk3) 12 (by rfl)
theorem Env.kp__law_wrong (E : Env P w K mg base) : PySem.W.keepIn K (.ref (He.ga K "_law_wrong")) = true := all_at (E.lk3) 13 (by rfl)
theorem Env.kp_law (E : Env P w K mg base) : PySem.W.keepIn K (.ref (He.ga K "law")) = true := all_at (E.lk3) 14 (by rfl)
theorem Env.c_LETTERS (E : Env P w K mg base) : ∃ t, mg "LETTERS" = some (.str ("abcdefghijklmnopqrstuvwxyz") t) := by
  obtain ⟨h, X, G⟩ := E.hp
  exact He.str_ok X G (all_at (E.lk3) 15 (by rfl))
theorem Env.c_FIGURES (E : Env P w K mg base) : ∃ t, mg "FIGURES" = some (.str ("0123456789") t) := by
  obtain ⟨h, X, G⟩ := E.hp
  exact He.str_ok X G (all_at (E.lk3) 16 (by rfl))
theorem Env.c_SIGNS (E : Env P w K mg base) : ∃ t, mg "SIGNS" = some (.str (Str.ofString ("abcdefghijklmnopqrstuvwxyzABCDEFGHIJKLMNOPQRSTUVWXYZ0123456789 !\"#$&'()*+,-./:;<=>?@" ++ "[\\]^_`{|}~")) t) := by
  obtain ⟨h, X, G⟩ := E.hp
  exact He.str_ok X G (all_at (E.lk3) 17 (by rfl))
theorem Env.c_SAY (E : Env P w K mg base) : ∃ t, mg "SAY" = some (.str ("say") t) := by
  obtain ⟨h, X, G⟩ := E.hp
  exact He.str_ok X G (all_at (E.lk3) 18 (by rfl))
theorem Env.c_ASK (E : Env P w K mg base) : ∃ t, mg "ASK" = some (.str ("ask") t) := by
  obtain ⟨h, X, G⟩ := E.hp
  exact He.str_ok X G (all_at (E.lk3) 19 (by rfl))
theorem Env.c_REPLY (E : Env P w K mg base) : ∃ t, mg "REPLY" = some (.str ("reply") t) := by
  obtain ⟨h, X, G⟩ := E.hp
  exact He.str_ok X G (all_at (E.lk4) 0 (by rfl))
theorem Env.c_SHOW (E : Env P w K mg base) : ∃ t, mg "SHOW" = some (.str ("show") t) := by
  obtain ⟨h, X, G⟩ := E.hp
  exact He.str_ok X G (all_at (E.lk4) 1 (by rfl))
theorem Env.c_KINDS (E : Env P w K mg base) : GTup K mg "KINDS" ((["say", "ask", "reply", "show"] : List Str).map D.str) := by
  obtain ⟨h, X, G⟩ := E.hp
  exact gtup_of X G (He.ba (all_at (E.lk4) 2 (by rfl))).1 (He.ba (all_at (E.lk4) 2 (by rfl))).2 rfl
theorem Env.c_LEADS (E : Env P w K mg base) : GTup K mg "LEADS" ((["", "return", "wipe", "fresh"] : List Str).map D.str) := by
  obtain ⟨h, X, G⟩ := E.hp
  exact gtup_of X G (He.ba (all_at (E.lk4) 3 (by rfl))).1 (He.ba (all_at (E.lk4) 3 (by rfl))).2 rfl
theorem Env.c_TAILS (E : Env P w K mg base) : GTup K mg "TAILS" ((["", "erase", "newline"] : List Str).map D.str) := by
  obtain ⟨h, X, G⟩ := E.hp
  exact gtup_of X G (He.ba (all_at (E.lk4) 4 (by rfl))).1 (He.ba (all_at (E.lk4) 4 (by rfl))).2 rfl
theorem Env.c_MOST_SIGNS (E : Env P w K mg base) : ∃ t, mg "MOST_SIGNS" = some (.int 40 t) := by
  obtain ⟨h, X, G⟩ := E.hp
  exact He.int_ok X G (all_at (E.lk4) 5 (by rfl))
theorem Env.c_MOST_NAME (E : Env P w K mg base) : ∃ t, mg "MOST_NAME" = some (.int 8 t) := by
  obtain ⟨h, X, G⟩ := E.hp
  exact He.int_ok X G (all_at (E.lk4) 6 (by rfl))
theorem Env.c_MOST_WORKS (E : Env P w K mg base) : ∃ t, mg "MOST_WORKS" = some (.int 6 t) := by
  obtain ⟨h, X, G⟩ := E.hp
  exact He.int_ok X G (all_at (E.lk4) 7 (by rfl))
theorem Env.c_MOST_WRITES (E : Env P w K mg base) : ∃ t, mg "MOST_WRITES" = some (.int 8 t) := by
  obtain ⟨h, X, G⟩ := E.hp
  exact He.int_ok X G (all_at (E.lk4) 8 (by rfl))
theorem Env.x_InvalidWrite (E : Env P w K mg base) : TExc K mg "InvalidWrite" := by
  obtain ⟨h, X, G⟩ := E.hp
  exact exB_ok X G (all_at (E.lk4) 9 (by rfl))
theorem Env.t_InvalidWrite (E : Env P w K mg base) : TXf K (He.ga K "InvalidWrite") := txB_ok (all_at (E.lk4) 10 (by rfl))
theorem Env.f_InvalidWrite_part (E : Env P w K mg base) : PySem.W.findIn K (.ref (He.ga K "InvalidWrite")) "part" = some none := He.noat_ok (all_at (E.lk4) 11 (by rfl))
theorem Env.xm_InvalidWrite_WrongGap (E : Env P w K mg base) : PySem.W.exmOne K (.ref (He.ga K "InvalidWrite")) (.ref (He.ga K "WrongGap")) = some false := of_decide_eq_true (all_at (E.lk4) 12 (by rfl))
theorem Env.xm_InvalidWrite_WrongOrder (E : Env P w K mg base) : PySem.W.exmOne K (.ref (He.ga K "InvalidWrite")) (.ref (He.ga K "WrongOrder")) = some false := of_decide_eq_true (all_at (E.lk4) 13 (by rfl))
theorem Env.ki_InvalidWrite_LineError (E : Env P w K mg base) : PySem.W.kitOne K (.ref (He.ga K "InvalidWrite")) (.ref (He.ga K "LineError")) = some true := of_decide_eq_true (all_at (E.lk4) 14 (by rfl))
theorem Env.x_InvalidCast (E : Env P w K mg base) : TExc K mg "InvalidCast" := by
  obtain ⟨h, X, G⟩ := E.hp
  exact exB_ok X G (all_at (E.lk4) 15 (by rfl))
theorem Env.t_InvalidCast (E : Env P w K mg base) : TXf K (He.ga K "InvalidCast") := txB_ok (all_at (E.lk4) 16 (by rfl))
theorem Env.f_InvalidCast_name (E : Env P w K mg base) : PySem.W.findIn K (.ref (He.ga K "InvalidCast")) "name" = some none := He.noat_ok (all_at (E.lk4) 17 (by rfl))
theorem Env.f_InvalidCast_number (E : Env P w K mg base) : PySem.W.findIn K (.ref (He.ga K "InvalidCast")) "number" = some none := He.noat_ok (all_at (E.lk4) 18 (by rfl))
theorem Env.xm_InvalidCast_WrongGap (E : Env P w K mg base) : PySem.W.exmOne K (.ref (He.ga K "InvalidCast")) (.ref (He.ga K "WrongGap")) = some false := of_decide_eq_true (all_at (E.lk4) 19 (by rfl))
theorem Env.xm_InvalidCast_WrongOrder (E : Env P w K mg base) : PySem.W.exmOne K (.ref (He.ga K "InvalidCast")) (.ref (He.ga K "WrongOrder")) = some false := of_decide_eq_true (all_at (E.lk5) 0 (by rfl))
theorem Env.ki_InvalidCast_LineError (E : Env P w K mg base) : PySem.W.kitOne K (.ref (He.ga K "InvalidCast")) (.ref (He.ga K "LineError")) = some true := of_decide_eq_true (all_at (E.lk5) 1 (by rfl))
theorem Env.x_UnknownWork (E : Env P w K mg base) : TExc K mg "UnknownWork" := by
  obtain ⟨h, X, G⟩ := E.hp
  exact exB_ok X G (all_at (E.lk5) 2 (by rfl))
theorem Env.t_UnknownWork (E : Env P w K mg base) : TXf K (He.ga K "UnknownWork") := txB_ok (all_at (E.lk5) 3 (by rfl))
theorem Env.f_UnknownWork_name (E : Env P w K mg base) : PySem.W.findIn K (.ref (He.ga K "UnknownWork")) "name" = some none := He.noat_ok (all_at (E.lk5) 4 (by rfl))
theorem Env.xm_UnknownWork_WrongGap (E : Env P w K mg base) : PySem.W.exmOne K (.ref (He.ga K "UnknownWork")) (.ref (He.ga K "WrongGap")) = some false := of_decide_eq_true (all_at (E.lk5) 5 (by rfl))
theorem Env.xm_UnknownWork_WrongOrder (E : Env P w K mg base) : PySem.W.exmOne K (.ref (He.ga K "UnknownWork")) (.ref (He.ga K "WrongOrder")) = some false := of_decide_eq_true (all_at (E.lk5) 6 (by rfl))
theorem Env.ki_UnknownWork_LineError (E : Env P w K mg base) : PySem.W.kitOne K (.ref (He.ga K "UnknownWork")) (.ref (He.ga K "LineError")) = some true := of_decide_eq_true (all_at (E.lk5) 7 (by rfl))
theorem Env.x_Clash (E : Env P w K mg base) : TExc K mg "Clash" := by
  obtain ⟨h, X, G⟩ := E.hp
  exact exB_ok X G (all_at (E.lk5) 8 (by rfl))
theorem Env.t_Clash (E : Env P w K mg base) : TXf K (He.ga K "Clash") := txB_ok (all_at (E.lk5) 9 (by rfl))
theorem Env.f_Clash_name (E : Env P w K mg base) : PySem.W.findIn K (.ref (He.ga K "Clash")) "name" = some none := He.noat_ok (all_at (E.lk5) 10 (by rfl))
theorem Env.xm_Clash_WrongGap (E : Env P w K mg base) : PySem.W.exmOne K (.ref (He.ga K "Clash")) (.ref (He.ga K "WrongGap")) = some false := of_decide_eq_true (all_at (E.lk5) 11 (by rfl))
theorem Env.xm_Clash_WrongOrder (E : Env P w K mg base) : PySem.W.exmOne K (.ref (He.ga K "Clash")) (.ref (He.ga K "WrongOrder")) = some false := of_decide_eq_true (all_at (E.lk5) 12 (by rfl))
theorem Env.ki_Clash_LineError (E : Env P w K mg base) : PySem.W.kitOne K (.ref (He.ga K "Clash")) (.ref (He.ga K "LineError")) = some true := of_decide_eq_true (all_at (E.lk5) 13 (by rfl))
theorem Env.x_WrongGap (E : Env P w K mg base) : TExc K mg "WrongGap" := by
  obtain ⟨h, X, G⟩ := E.hp
  exact exB_ok X G (all_at (E.lk5) 14 (by rfl))
theorem Env.t_WrongGap (E : Env P w K mg base) : TXf K (He.ga K "WrongGap") := txB_ok (all_at (E.lk5) 15 (by rfl))
theorem Env.f_WrongGap_gap (E : Env P w K mg base) : PySem.W.findIn K (.ref (He.ga K "WrongGap")) "gap" = some none := He.noat_ok (all_at (E.lk5) 16 (by rfl))
theorem Env.xm_WrongGap_WrongGap (E : Env P w K mg base) : PySem.W.exmOne K (.ref (He.ga K "WrongGap")) (.ref (He.ga K "WrongGap")) = some true := of_decide_eq_true (all_at (E.lk5) 17 (by rfl))
theorem Env.xm_WrongGap_WrongOrder (E : Env P w K mg base) : PySem.W.exmOne K (.ref (He.ga K "WrongGap")) (.ref (He.ga K "WrongOrder")) = some false := of_decide_eq_true (all_at (E.lk5) 18 (by rfl))
theorem Env.ki_WrongGap_LineError (E : Env P w K mg base) : PySem.W.kitOne K (.ref (He.ga K "WrongGap")) (.ref (He.ga K "LineError")) = some true := of_decide_eq_true (all_at (E.lk5) 19 (by rfl))
theorem Env.x_WrongOrder (E : Env P w K mg base) : TExc K mg "WrongOrder" := by
  obtain ⟨h, X, G⟩ := E.hp
  exact exB_ok X G (all_at (E.lk6) 0 (by rfl))
theorem Env.t_WrongOrder (E : Env P w K mg base) : TXf K (He.ga K "WrongOrder") := txB_ok (all_at (E.lk6) 1 (by rfl))
theorem Env.f_WrongOrder_index (E : Env P w K mg base) : PySem.W.findIn K (.ref (He.ga K "WrongOrder")) "index" = some none := He.noat_ok (all_at (E.lk6) 2 (by rfl))
theorem Env.xm_WrongOrder_WrongGap (E : Env P w K mg base) : PySem.W.exmOne K (.ref (He.ga K "WrongOrder")) (.ref (He.ga K "WrongGap")) = some false := of_decide_eq_true (all_at (E.lk6) 3 (by rfl))
theorem Env.xm_WrongOrder_WrongOrder (E : Env P w K mg base) : PySem.W.exmOne K (.ref (He.ga K "WrongOrder")) (.ref (He.ga K "WrongOrder")) = some true := of_decide_eq_true (all_at (E.lk6) 4 (by rfl))
theorem Env.ki_WrongOrder_LineError (E : Env P w K mg base) : PySem.W.kitOne K (.ref (He.ga K "WrongOrder")) (.ref (He.ga K "LineError")) = some true := of_decide_eq_true (all_at (E.lk6) 5 (by rfl))
theorem Env.m_Course (E : Env P w K mg base) : Mk K (He.ga K "Course") (He.ma K (He.ga K "Course") "__init__") := He.mkr_ok (all_at (E.lk6) 6 (by rfl))
theorem Env.h_Course_init (E : Env P w K mg base) : TMeth K (He.ga K "Course") "__init__" := tmeth_ok (all_at (E.lk6) 7 (by rfl))
theorem Env.h_Course_start (E : Env P w K mg base) : TMeth K (He.ga K "Course") "start" := tmeth_ok (all_at (E.lk6) 8 (by rfl))
theorem Env.h_Course_ready (E : Env P w K mg base) : TMeth K (He.ga K "Course") "ready" := tmeth_ok (all_at (E.lk6) 9 (by rfl))
theorem Env.h_Course_after (E : Env P w K mg base) : TMeth K (He.ga K "Course") "after" := tmeth_ok (all_at (E.lk6) 10 (by rfl))
theorem Env.h_Course_is_whole (E : Env P w K mg base) : TMeth K (He.ga K "Course") "is_whole" := tmeth_ok (all_at (E.lk6) 11 (by rfl))
theorem Env.h_Course_count_from (E : Env P w K mg base) : TMeth K (He.ga K "Course") "count_from" := tmeth_ok (all_at (E.lk6) 12 (by rfl))
theorem Env.l_Course (E : Env P w K mg base) : Cls K (He.ga K "Course") := He.cls_ok (all_at (E.lk6) 13 (by rfl))
theorem Env.a_Course_troupe (E : Env P w K mg base) : NoAttr K (He.ga K "Course") "troupe" := He.noat_ok (all_at (E.lk6) 14 (by rfl))
theorem Env.a_Course_titles (E : Env P w K mg base) : NoAttr K (He.ga K "Course") "titles" := He.noat_ok (all_at (E.lk6) 15 (by rfl))
theorem Env.a_Course_holds (E : Env P w K mg base) : NoAttr K (He.ga K "Course") "holds" := He.noat_ok (all_at (E.lk6) 16 (by rfl))
theorem Env.a_Course_many (E : Env P w K mg base) : NoAttr K (He.ga K "Course") "many" := He.noat_ok (all_at (E.lk6) 17 (by rfl))
theorem Env.m_Write (E : Env P w K mg base) : Mk K (He.ga K "Write") (He.ma K (He.ga K "Write") "__init__") := He.mkr_ok (all_at (E.lk6) 18 (by rfl))
theorem Env.h_Write_init (E : Env P w K mg base) : TMeth K (He.ga K "Write") "__init__" := tmeth_ok (all_at (E.lk6) 19 (by rfl))
theorem Env.p_Write_kind (E : Env P w K mg base) : PropC K (He.ga K "Write") "kind" (He.ma K (He.ga K "Write") "kind") (gtr K (He.ga K "Write") "kind") := prB_ok (all_at (E.lk7) 0 (by rfl))
theorem Env.p_Write_text (E : Env P w K mg base) : PropC K (He.ga K "Write") "text" (He.ma K (He.ga K "Write") "text") (gtr K (He.ga K "Write") "text") := prB_ok (all_at (E.lk7) 1 (by rfl))
theorem Env.p_Write_lead (E : Env P w K mg base) : PropC K (He.ga K "Write") "lead" (He.ma K (He.ga K "Write") "lead") (gtr K (He.ga K "Write") "lead") := prB_ok (all_at (E.lk7) 2 (by rfl))
theorem Env.p_Write_tail (E : Env P w K mg base) : PropC K (He.ga K "Write") "tail" (He.ma K (He.ga K "Write") "tail") (gtr K (He.ga K "Write") "tail") := prB_ok (all_at (E.lk7) 3 (by rfl))
theorem Env.h_Write_len (E : Env P w K mg base) : TMeth K (He.ga K "Write") "__len__" := tmeth_ok (all_at (E.lk7) 4 (by rfl))
theorem Env.h_Write_eq (E : Env P w K mg base) : TMeth K (He.ga K "Write") "__eq__" := tmeth_ok (all_at (E.lk7) 5 (by rfl))
theorem Env.k_Write (E : Env P w K mg base) : TCls K (He.ga K "Write") := tclB_ok (all_at (E.lk7) 6 (by rfl))
theorem Env.s_Write_mode (E : Env P w K mg base) : SlX.Slot1 K (He.ga K "Write") "mode" (He.ma K (He.ga K "Write") "mode") 2 := slB_ok (all_at (E.lk7) 7 (by rfl))
theorem Env.s_Write_signs (E : Env P w K mg base) : SlX.Slot1 K (He.ga K "Write") "signs" (He.ma K (He.ga K "Write") "signs") 3 := slB_ok (all_at (E.lk7) 8 (by rfl))
theorem Env.s_Write_ahead (E : Env P w K mg base) : SlX.Slot1 K (He.ga K "Write") "ahead" (He.ma K (He.ga K "Write") "ahead") 0 := slB_ok (all_at (E.lk7) 9 (by rfl))
theorem Env.s_Write_behind (E : Env P w K mg base) : SlX.Slot1 K (He.ga K "Write") "behind" (He.ma K (He.ga K "Write") "behind") 1 := slB_ok (all_at (E.lk7) 10 (by rfl))
theorem Env.ki_Write_Cast (E : Env P w K mg base) : PySem.W.kitOne K (.ref (He.ga K "Write")) (.ref (He.ga K "Cast")) = some false := of_decide_eq_true (all_at (E.lk7) 11 (by rfl))
theorem Env.m_Cast (E : Env P w K mg base) : Mk K (He.ga K "Cast") (He.ma K (He.ga K "Cast") "__init__") := He.mkr_ok (all_at (E.lk7) 12 (by rfl))
theorem Env.h_Cast_init (E : Env P w K mg base) : TMeth K (He.ga K "Cast") "__init__" := tmeth_ok (all_at (E.lk7) 13 (by rfl))
theorem Env.p_Cast_names (E : Env P w K mg base) : PropC K (He.ga K "Cast") "names" (He.ma K (He.ga K "Cast") "names") (gtr K (He.ga K "Cast") "names") := prB_ok (all_at (E.lk7) 14 (by rfl))
theorem Env.fn_Cast_getitem (E : Env P w K mg base) : PySem.W.fnIn K (He.ma K (He.ga K "Cast") "__getitem__") = true := all_at (E.lk7) 15 (by rfl)
theorem Env.h_Cast_getitem (E : Env P w K mg base) : TMeth K (He.ga K "Cast") "__getitem__" := tmeth_ok (all_at (E.lk7) 16 (by rfl))
theorem Env.h_Cast_contains (E : Env P w K mg base) : TMeth K (He.ga K "Cast") "__contains__" := tmeth_ok (all_at (E.lk7) 17 (by rfl))
theorem Env.h_Cast_iter (E : Env P w K mg base) : TMeth K (He.ga K "Cast") "__iter__" := tmeth_ok (all_at (E.lk7) 18 (by rfl))
theorem Env.h_Cast_len (E : Env P w K mg base) : TMeth K (He.ga K "Cast") "__len__" := tmeth_ok (all_at (E.lk7) 19 (by rfl))
theorem Env.h_Cast_eq (E : Env P w K mg base) : TMeth K (He.ga K "Cast") "__eq__" := tmeth_ok (all_at (E.lk8) 0 (by rfl))
theorem Env.sf_Cast (E : Env P w K mg base) : PySem.W.selfFirst K (He.ga K "Cast") = true := all_at (E.lk8) 1 (by rfl)
theorem Env.h_Cast_add (E : Env P w K mg base) : TMeth K (He.ga K "Cast") "__add__" := tmeth_ok (all_at (E.lk8) 2 (by rfl))
theorem Env.h_Cast_gaps (E : Env P w K mg base) : TMeth K (He.ga K "Cast") "gaps" := tmeth_ok (all_at (E.lk8) 3 (by rfl))
theorem Env.k_Cast (E : Env P w K mg base) : TCls K (He.ga K "Cast") := tclB_ok (all_at (E.lk8) 4 (by rfl))
theorem Env.s_Cast_table (E : Env P w K mg base) : SlX.Slot1 K (He.ga K "Cast") "table" (He.ma K (He.ga K "Cast") "table") 0 := slB_ok (all_at (E.lk8) 5 (by rfl))
theorem Env.ki_Cast_Write (E : Env P w K mg base) : PySem.W.kitOne K (.ref (He.ga K "Cast")) (.ref (He.ga K "Write")) = some false := of_decide_eq_true (all_at (E.lk8) 6 (by rfl))
theorem Env.kd_order_number_holds (E : Env P w K mg base) : emptB K (kwdAt ("order_number", none) "holds" K) = true := all_at (E.lk8) 7 (by rfl)
theorem in_m_InvalidWrite_init : d_m_InvalidWrite_init ∈ fnL := List.mem_of_getElem? (i := 0) rfl
theorem in_m_InvalidCast_init : d_m_InvalidCast_init ∈ fnL := List.mem_of_getElem? (i := 1) rfl
theorem in_m_UnknownWork_init : d_m_UnknownWork_init ∈ fnL := List.mem_of_getElem? (i := 2) rfl
theorem in_m_Clash_init : d_m_Clash_init ∈ fnL := List.mem_of_getElem? (i := 3) rfl
theorem in_m_WrongGap_init : d_m_WrongGap_init ∈ fnL := List.mem_of_getElem? (i := 4) rfl
theorem in_m_WrongOrder_init : d_m_WrongOrder_init ∈ fnL := List.mem_of_getElem? (i := 5) rfl
theorem in_f_is_integer : d_f_is_integer ∈ fnL := List.mem_of_getElem? (i := 6) rfl
theorem in_f_is_pair : d_f_is_pair ∈ fnL := List.mem_of_getElem? (i := 7) rfl
theorem in_f_holds_of : d_f_holds_of ∈ fnL := List.mem_of_getElem? (i := 8) rfl
theorem in_m_Course_init : d_m_Course_init ∈ fnL := List.mem_of_getElem? (i := 9) rfl
theorem in_m_Course_start : d_m_Course_start ∈ fnL := List.mem_of_getElem? (i := 10) rfl
theorem in_m_Course_ready : d_m_Course_ready ∈ fnL := List.mem_of_getElem? (i := 11) rfl
theorem in_m_Course_after : d_m_Course_after ∈ fnL := List.mem_of_getElem? (i := 12) rfl
theorem in_m_Course_is_whole : d_m_Course_is_whole ∈ fnL := List.mem_of_getElem? (i := 13) rfl
theorem in_m_Course_count_from : d_m_Course_count_from ∈ fnL := List.mem_of_getElem? (i := 14) rfl
theorem in_f_checked_order : d_f_checked_order ∈ fnL := List.mem_of_getElem? (i := 15) rfl
theorem in_f_order_number : d_f_order_number ∈ fnL := List.mem_of_getElem? (i := 16) rfl
theorem in_f_broken_gaps : d_f_broken_gaps ∈ fnL := List.mem_of_getElem? (i := 17) rfl
theorem in_f_is_text : d_f_is_text ∈ fnL := List.mem_of_getElem? (i := 18) rfl
theorem in_f_is_name : d_f_is_name ∈ fnL := List.mem_of_getElem? (i := 19) rfl
theorem in_f_is_one_of : d_f_is_one_of ∈ fnL := List.mem_of_getElem? (i := 20) rfl
theorem in_m_Write_init : d_m_Write_init ∈ fnL := List.mem_of_getElem? (i := 21) rfl
theorem in_m_Write_len : d_m_Write_len ∈ fnL := List.mem_of_getElem? (i := 22) rfl
theorem in_m_Write_eq : d_m_Write_eq ∈ fnL := List.mem_of_getElem? (i := 23) rfl
theorem in_f_look_at_writes : d_f_look_at_writes ∈ fnL := List.mem_of_getElem? (i := 24) rfl
theorem in_m_Cast_init : d_m_Cast_init ∈ fnL := List.mem_of_getElem? (i := 25) rfl
theorem in_m_Cast_getitem : d_m_Cast_getitem ∈ fnL := List.mem_of_getElem? (i := 26) rfl
theorem in_m_Cast_contains : d_m_Cast_contains ∈ fnL := List.mem_of_getElem? (i := 27) rfl
theorem in_m_Cast_iter : d_m_Cast_iter ∈ fnL := List.mem_of_getElem? (i := 28) rfl
theorem in_m_Cast_len : d_m_Cast_len ∈ fnL := List.mem_of_getElem? (i := 29) rfl
theorem in_m_Cast_eq : d_m_Cast_eq ∈ fnL := List.mem_of_getElem? (i := 30) rfl
theorem in_m_Cast_add : d_m_Cast_add ∈ fnL := List.mem_of_getElem? (i := 31) rfl
theorem in_m_Cast_gaps : d_m_Cast_gaps ∈ fnL := List.mem_of_getElem? (i := 32) rfl
theorem in_f_Lmix : d_f_Lmix ∈ fnL := List.mem_of_getElem? (i := 33) rfl
theorem in_f_Lnext : d_f_Lnext ∈ fnL := List.mem_of_getElem? (i := 34) rfl
theorem in_f_Lletters : d_f_Lletters ∈ fnL := List.mem_of_getElem? (i := 35) rfl
theorem in_f_Lone : d_f_Lone ∈ fnL := List.mem_of_getElem? (i := 36) rfl
theorem in_f_Lrowof : d_f_Lrowof ∈ fnL := List.mem_of_getElem? (i := 37) rfl
theorem in_f_Ltable : d_f_Ltable ∈ fnL := List.mem_of_getElem? (i := 38) rfl
theorem in_f_Lbuilt : d_f_Lbuilt ∈ fnL := List.mem_of_getElem? (i := 39) rfl
theorem in_f_Lgapsof : d_f_Lgapsof ∈ fnL := List.mem_of_getElem? (i := 40) rfl
theorem in_f_Lsome : d_f_Lsome ∈ fnL := List.mem_of_getElem? (i := 41) rfl
theorem in_f_Lbeginning : d_f_Lbeginning ∈ fnL := List.mem_of_getElem? (i := 42) rfl
theorem in_f_Lwrong : d_f_Lwrong ∈ fnL := List.mem_of_getElem? (i := 43) rfl
theorem in_f_law : d_f_law ∈ fnL := List.mem_of_getElem? (i := 44) rfl
theorem in_m_Write_kind : d_m_Write_kind ∈ gsL := List.mem_of_getElem? (i := 0) rfl
theorem in_m_Write_text : d_m_Write_text ∈ gsL := List.mem_of_getElem? (i := 1) rfl
theorem in_m_Write_lead : d_m_Write_lead ∈ gsL := List.mem_of_getElem? (i := 2) rfl
theorem in_m_Write_tail : d_m_Write_tail ∈ gsL := List.mem_of_getElem? (i := 3) rfl
theorem in_m_Cast_names : d_m_Cast_names ∈ gsL := List.mem_of_getElem? (i := 4) rfl
theorem Env.ini_InvalidWrite (E : Env P w K mg base) : ∃ fd, FnOk P w K mg base (L2.CX P w) 1 (He.ma K (He.ga K "InvalidWrite") "__init__") fd ["self", "part"] (spXIC (He.ga K "InvalidWrite") ["part"]) ∧ L2.Binds K fd ["self", "part"] [] := by
  obtain ⟨fd, F⟩ := E.has _ in_m_InvalidWrite_init
  exact ⟨fd, ok_ini1 F sc_m_InvalidWrite_init E.x_InvalidWrite.oe E.f_InvalidWrite_part (by first | exact Or.inl rfl | exact Or.inr (Or.inl rfl) | exact Or.inr (Or.inr rfl)) (by first | exact Or.inl rfl | exact Or.inr (Or.inl rfl) | exact Or.inr (Or.inr rfl)) (by decide) (by decide), F.bindsN fun _ _ _ _ _ _ us hl => match us, hl with | [_, _], _ => rfl⟩
theorem Env.ini_InvalidCast (E : Env P w K mg base) : ∃ fd, FnOk P w K mg base (L2.CX P w) 1 (He.ma K (He.ga K "InvalidCast") "__init__") fd ["self", "name", "number"] (spXIC (He.ga K "InvalidCast") ["name", "number"]) ∧ L2.Binds K fd ["self", "name", "number"] [] := by
  obtain ⟨fd, F⟩ := E.has _ in_m_InvalidCast_init
  exact ⟨fd, ok_ini2 F sc_m_InvalidCast_init E.x_InvalidCast.oe E.f_InvalidCast_name E.f_InvalidCast_number (by first | exact Or.inl rfl | exact Or.inr (Or.inl rfl) | exact Or.inr (Or.inr rfl)) (by first | exact Or.inl rfl | exact Or.inr (Or.inl rfl) | exact Or.inr (Or.inr rfl)) (by first | exact Or.inl rfl | exact Or.inr (Or.inl rfl) | exact Or.inr (Or.inr rfl)) (by decide) (by decide) (by decide) (by decide), F.bindsN fun _ _ _ _ _ _ us hl => match us, hl with | [_, _, _], _ => rfl⟩
theorem Env.ini_UnknownWork (E : Env P w K mg base) : ∃ fd, FnOk P w K mg base (L2.CX P w) 1 (He.ma K (He.ga K "UnknownWork") "__init__") fd ["self", "name"] (spXIC (He.ga K "UnknownWork") ["name"]) ∧ L2.Binds K fd ["self", "name"] [] := by
  obtain ⟨fd, F⟩ := E.has _ in_m_UnknownWork_init
  exact ⟨fd, ok_ini1 F sc_m_UnknownWork_init E.x_UnknownWork.oe E.f_UnknownWork_name (by first | exact Or.inl rfl | exact Or.inr (Or.inl rfl) | exact Or.inr (Or.inr rfl)) (by first | exact Or.inl rfl | exact Or.inr (Or.inl rfl) | exact Or.inr (Or.inr rfl)) (by decide) (by decide), F.bindsN fun _ _ _ _ _ _ us hl => match us, hl with | [_, _], _ => rfl⟩
theorem Env.ini_Clash (E : Env P w K mg base) : ∃ fd, FnOk P w K mg base (L2.CX P w) 1 (He.ma K (He.ga K "Clash") "__init__") fd ["self", "name"] (spXIC (He.ga K "Clash") ["name"]) ∧ L2.Binds K fd ["self", "name"] [] := by
  obtain ⟨fd, F⟩ := E.has _ in_m_Clash_init
  exact ⟨fd, ok_ini1 F sc_m_Clash_init E.x_Clash.oe E.f_Clash_name (by first | exact Or.inl rfl | exact Or.inr (Or.inl rfl) | exact Or.inr (Or.inr rfl)) (by first | exact Or.inl rfl | exact Or.inr (Or.inl rfl) | exact Or.inr (Or.inr rfl)) (by decide) (by decide), F.bindsN fun _ _ _ _ _ _ us hl => match us, hl with | [_, _], _ => rfl⟩
theorem Env.ini_WrongGap (E : Env P w K mg base) : ∃ fd, FnOk P w K mg base (L2.CX P w) 1 (He.ma K (He.ga K "WrongGap") "__init__") fd ["self", "gap"] (spXIC (He.ga K "WrongGap") ["gap"]) ∧ L2.Binds K fd ["self", "gap"] [] := by
  obtain ⟨fd, F⟩ := E.has _ in_m_WrongGap_init
  exact ⟨fd, ok_ini1 F sc_m_WrongGap_init E.x_WrongGap.oe E.f_WrongGap_gap (by first | exact Or.inl rfl | exact Or.inr (Or.inl rfl) | exact Or.inr (Or.inr rfl)) (by first | exact Or.inl rfl | exact Or.inr (Or.inl rfl) | exact Or.inr (Or.inr rfl)) (by decide) (by decide), F.bindsN fun _ _ _ _ _ _ us hl => match us, hl with | [_, _], _ => rfl⟩
theorem Env.ini_WrongOrder (E : Env P w K mg base) : ∃ fd, FnOk P w K mg base (L2.CX P w) 1 (He.ma K (He.ga K "WrongOrder") "__init__") fd ["self", "index"] (spXIC (He.ga K "WrongOrder") ["index"]) ∧ L2.Binds K fd ["self", "index"] [] := by
  obtain ⟨fd, F⟩ := E.has _ in_m_WrongOrder_init
  exact ⟨fd, ok_ini1 F sc_m_WrongOrder_init E.x_WrongOrder.oe E.f_WrongOrder_index (by first | exact Or.inl rfl | exact Or.inr (Or.inl rfl) | exact Or.inr (Or.inr rfl)) (by first | exact Or.inl rfl | exact Or.inr (Or.inl rfl) | exact Or.inr (Or.inr rfl)) (by decide) (by decide), F.bindsN fun _ _ _ _ _ _ us hl => match us, hl with | [_, _], _ => rfl⟩
theorem mk_f_is_integer (E : Env P w K mg base) {k : Nat} {S : Spec K} (ok : ∀ fd, FunD K "is_integer" "is_integer" (defArgs f_is_integer) (defBody f_is_integer) (defScope f_is_integer) [] [] (He.ga K "is_integer") fd → FnOk P w K mg base (L2.CX P w) k (He.ga K "is_integer") fd ["value"] (spD K S)) : Def P w K mg base "is_integer" k ["value"] [] S := by
  obtain ⟨fd, F⟩ := E.has _ in_f_is_integer
  exact Def.of E.g_is_integer F (ok fd F) fun _ _ _ _ _ _ us hl => match us, hl with | [_], _ => rfl
theorem mk_f_is_pair (E : Env P w K mg base) {k : Nat} {S : Spec K} (ok : ∀ fd, FunD K "is_pair" "is_pair" (defArgs f_is_pair) (defBody f_is_pair) (defScope f_is_pair) [] [] (He.ga K "is_pair") fd → FnOk P w K mg base (L2.CX P w) k (He.ga K "is_pair") fd ["value"] (spD K S)) : Def P w K mg base "is_pair" k ["value"] [] S := by
  obtain ⟨fd, F⟩ := E.has _ in_f_is_pair
  exact Def.of E.g_is_pair F (ok fd F) fun _ _ _ _ _ _ us hl => match us, hl with | [_], _ => rfl
theorem mk_f_holds_of (E : Env P w K mg base) {k : Nat} {S : Spec K} (ok : ∀ fd, FunD K "holds_of" "holds_of" (defArgs f_holds_of) (defBody f_holds_of) (defScope f_holds_of) [] [] (He.ga K "holds_of") fd → FnOk P w K mg base (L2.CX P w) k (He.ga K "holds_of") fd ["cast", "holds"] (spD K S)) : Def P w K mg base "holds_of" k ["cast", "holds"] [] S := by
  obtain ⟨fd, F⟩ := E.has _ in_f_holds_of
  exact Def.of E.g_holds_of F (ok fd F) fun _ _ _ _ _ _ us hl => match us, hl with | [_, _], _ => rfl
theorem mk_m_Course_init (E : Env P w K mg base) {k : Nat} {S : Spec K} (ok : ∀ fd, FunD K "__init__" "Course.__init__" (defArgs m_Course_init) (defBody m_Course_init) (defScope m_Course_init) [] [] (He.ma K (He.ga K "Course") "__init__") fd → FnOk P w K mg base (L2.CX P w) k (He.ma K (He.ga K "Course") "__init__") fd ["self", "cast", "holds"] (spD K S)) : FnR P w K mg base (L2.CX P w) k (He.ma K (He.ga K "Course") "__init__") (spD K S) := by
  obtain ⟨fd, F⟩ := E.has _ in_m_Course_init
  exact raw0 (ok fd F) (F.bindsN fun _ _ _ _ _ _ us hl => match us, hl with | [_, _, _], _ => rfl)
theorem mk_m_Course_start (E : Env P w K mg base) {k : Nat} {S : Spec K} (ok : ∀ fd, FunD K "start" "Course.start" (defArgs m_Course_start) (defBody m_Course_start) (defScope m_Course_start) [] [] (He.ma K (He.ga K "Course") "start") fd → FnOk P w K mg base (L2.CX P w) k (He.ma K (He.ga K "Course") "start") fd ["self"] (spD K S)) : FnR P w K mg base (L2.CX P w) k (He.ma K (He.ga K "Course") "start") (spD K S) := by
  obtain ⟨fd, F⟩ := E.has _ in_m_Course_start
  exact raw0 (ok fd F) (F.bindsN fun _ _ _ _ _ _ us hl => match us, hl with | [_], _ => rfl)
theorem mk_m_Course_ready (E : Env P w K mg base) {k : Nat} {S : Spec K} (ok : ∀ fd, FunD K "ready" "Course.ready" (defArgs m_Course_ready) (defBody m_Course_ready) (defScope m_Course_ready) [] [] (He.ma K (He.ga K "Course") "ready") fd → FnOk P w K mg base (L2.CX P w) k (He.ma K (He.ga K "Course") "ready") fd ["self", "counts", "bound"] (spD K S)) : FnR P w K mg base (L2.CX P w) k (He.ma K (He.ga K "Course") "ready") (spD K S) := by
  obtain ⟨fd, F⟩ := E.has _ in_m_Course_ready
  exact raw0 (ok fd F) (F.bindsN fun _ _ _ _ _ _ us hl => match us, hl with | [_, _, _], _ => rfl)
theorem mk_m_Course_after (E : Env P w K mg base) {k : Nat} {S : Spec K} (ok : ∀ fd, FunD K "after" "Course.after" (defArgs m_Course_after) (defBody m_Course_after) (defScope m_Course_after) [] [] (He.ma K (He.ga K "Course") "after") fd → FnOk P w K mg base (L2.CX P w) k (He.ma K (He.ga K "Course") "after") fd ["self", "counts", "name"] (spD K S)) : FnR P w K mg base (L2.CX P w) k (He.ma K (He.ga K "Course") "after") (spD K S) := by
  obtain ⟨fd, F⟩ := E.has _ in_m_Course_after
  exact raw0 (ok fd F) (F.bindsN fun _ _ _ _ _ _ us hl => match us, hl with | [_, _, _], _ => rfl)
theorem mk_m_Course_is_whole (E : Env P w K mg base) {k : Nat} {S : Spec K} (ok : ∀ fd, FunD K "is_whole" "Course.is_whole" (defArgs m_Course_is_whole) (defBody m_Course_is_whole) (defScope m_Course_is_whole) [] [] (He.ma K (He.ga K "Course") "is_whole") fd → FnOk P w K mg base (L2.CX P w) k (He.ma K (He.ga K "Course") "is_whole") fd ["self", "counts"] (spD K S)) : FnR P w K mg base (L2.CX P w) k (He.ma K (He.ga K "Course") "is_whole") (spD K S) := by
  obtain ⟨fd, F⟩ := E.has _ in_m_Course_is_whole
  exact raw0 (ok fd F) (F.bindsN fun _ _ _ _ _ _ us hl => match us, hl with | [_, _], _ => rfl)
theorem mk_m_Course_count_from (E : Env P w K mg base) {k : Nat} {S : Spec K} (ok : ∀ fd, FunD K "count_from" "Course.count_from" (defArgs m_Course_count_from) (defBody m_Course_count_from) (defScope m_Course_count_from) [] [] (He.ma K (He.ga K "Course") "count_from") fd → FnOk P w K mg base (L2.CX P w) k (He.ma K (He.ga K "Course") "count_from") fd ["self", "counts", "bound"] (spD K S)) : FnR P w K mg base (L2.CX P w) k (He.ma K (He.ga K "Course") "count_from") (spD K S) := by
  obtain ⟨fd, F⟩ := E.has _ in_m_Course_count_from
  exact raw0 (ok fd F) (F.bindsN fun _ _ _ _ _ _ us hl => match us, hl with | [_, _, _], _ => rfl)
theorem mk_f_checked_order (E : Env P w K mg base) {k : Nat} {S : Spec K} (ok : ∀ fd, FunD K "checked_order" "checked_order" (defArgs f_checked_order) (defBody f_checked_order) (defScope f_checked_order) [] [] (He.ga K "checked_order") fd → FnOk P w K mg base (L2.CX P w) k (He.ga K "checked_order") fd ["cast", "order", "holds", "is_whole"] (spD K S)) : Def P w K mg base "checked_order" k ["cast", "order", "holds", "is_whole"] [] S := by
  obtain ⟨fd, F⟩ := E.has _ in_f_checked_order
  exact Def.of E.g_checked_order F (ok fd F) fun _ _ _ _ _ _ us hl => match us, hl with | [_, _, _, _], _ => rfl
theorem mkK_f_order_number (E : Env P w K mg base) {k : Nat} {S : Spec K} (ok : ∀ fd, FunD K "order_number" "order_number" (defArgs f_order_number) (defBody f_order_number) (defScope f_order_number) [] [("holds", V.ref (kwdAt ("order_number", none) "holds" K))] (He.ga K "order_number") fd → FnOk P w K mg base (L2.CX P w) k (He.ga K "order_number") fd ["cast", "order", "holds"] (spD K S)) : DefK P w K mg base "order_number" k ["cast", "order", "holds"] 2 ["holds"] [] S := by
  obtain ⟨fd, F⟩ := E.has _ in_f_order_number
  have F : FunD K "order_number" "order_number" (defArgs f_order_number) (defBody f_order_number) (defScope f_order_number) [] [("holds", V.ref (kwdAt ("order_number", none) "holds" K))] (He.ga K "order_number") fd := F
  exact DefK.of E.g_order_number F (ok fd F) (by simp) fun D doc pm an cdv ct us ws h1 h2 => match us, ws, h1, h2 with | [_, _], [_], _, _ => rfl
theorem mk0_f_order_number (E : Env P w K mg base) {k : Nat} {S : Spec K} (ok : ∀ fd, FunD K "order_number" "order_number" (defArgs f_order_number) (defBody f_order_number) (defScope f_order_number) [] [("holds", V.ref (kwdAt ("order_number", none) "holds" K))] (He.ga K "order_number") fd → FnOk P w K mg base (L2.CX P w) k (He.ga K "order_number") fd ["cast", "order", "holds"] (spD K S)) : DefK P w K mg base "order_number" k ["cast", "order", "holds"] 2 [] [.tup []] S := by
  obtain ⟨fd, F⟩ := E.has _ in_f_order_number
  have F : FunD K "order_number" "order_number" (defArgs f_order_number) (defBody f_order_number) (defScope f_order_number) [] [("holds", V.ref (kwdAt ("order_number", none) "holds" K))] (He.ga K "order_number") fd := F
  exact DefK.ofP (kd := [("holds", V.ref (kwdAt ("order_number", none) "holds" K))]) E.g_order_number F (ok fd F) (by simp) (fun q hq => hq) (fun G => ⟨_, _, rfl, emptB_ok E.kd_order_number_holds G, rfl⟩) fun D doc pm an cdv ct us mv ws h1 h2 h3 => match us, mv, ws, h1, h2, h3 with | [_, _], [_], [], _, _, _ => ⟨_, _, _, _, _, _, rfl, rfl, rfl⟩
theorem mk_f_broken_gaps (E : Env P w K mg base) {k : Nat} {S : Spec K} (ok : ∀ fd, FunD K "broken_gaps" "broken_gaps" (defArgs f_broken_gaps) (defBody f_broken_gaps) (defScope f_broken_gaps) [] [] (He.ga K "broken_gaps") fd → FnOk P w K mg base (L2.CX P w) k (He.ga K "broken_gaps") fd ["cast", "order"] (spD K S)) : Def P w K mg base "broken_gaps" k ["cast", "order"] [] S := by
  obtain ⟨fd, F⟩ := E.has _ in_f_broken_gaps
  exact Def.of E.g_broken_gaps F (ok fd F) fun _ _ _ _ _ _ us hl => match us, hl with | [_, _], _ => rfl
theorem mk_f_is_text (E : Env P w K mg base) {k : Nat} {S : Spec K} (ok : ∀ fd, FunD K "is_text" "is_text" (defArgs f_is_text) (defBody f_is_text) (defScope f_is_text) [] [] (He.ga K "is_text") fd → FnOk P w K mg base (L2.CX P w) k (He.ga K "is_text") fd ["value"] (spD K S)) : Def P w K mg base "is_text" k ["value"] [] S := by
  obtain ⟨fd, F⟩ := E.has _ in_f_is_text
  exact Def.of E.g_is_text F (ok fd F) fun _ _ _ _ _ _ us hl => match us, hl with | [_], _ => rfl
theorem mk_f_is_name (E : Env P w K mg base) {k : Nat} {S : Spec K} (ok : ∀ fd, FunD K "is_name" "is_name" (defArgs f_is_name) (defBody f_is_name) (defScope f_is_name) [] [] (He.ga K "is_name") fd → FnOk P w K mg base (L2.CX P w) k (He.ga K "is_name") fd ["value"] (spD K S)) : Def P w K mg base "is_name" k ["value"] [] S := by
  obtain ⟨fd, F⟩ := E.has _ in_f_is_name
  exact Def.of E.g_is_name F (ok fd F) fun _ _ _ _ _ _ us hl => match us, hl with | [_], _ => rfl
theorem mk_f_is_one_of (E : Env P w K mg base) {k : Nat} {S : Spec K} (ok : ∀ fd, FunD K "is_one_of" "is_one_of" (defArgs f_is_one_of) (defBody f_is_one_of) (defScope f_is_one_of) [] [] (He.ga K "is_one_of") fd → FnOk P w K mg base (L2.CX P w) k (He.ga K "is_one_of") fd ["value", "words"] (spD K S)) : Def P w K mg base "is_one_of" k ["value", "words"] [] S := by
  obtain ⟨fd, F⟩ := E.has _ in_f_is_one_of
  exact Def.of E.g_is_one_of F (ok fd F) fun _ _ _ _ _ _ us hl => match us, hl with | [_, _], _ => rfl
theorem mk_m_Write_kind (E : Env P w K mg base) {k : Nat} {S : Spec K} (ok : ∀ fd, FunD K "kind" "Write.kind" (defArgs m_Write_kind) (defBody m_Write_kind) (defScope m_Write_kind) [] [] (gtr K (He.ga K "Write") "kind") fd → FnOk P w K mg base (L2.CX P w) k (gtr K (He.ga K "Write") "kind") fd ["self"] (spD K S)) : FnR P w K mg base (L2.CX P w) k (gtr K (He.ga K "Write") "kind") (spD K S) := by
  obtain ⟨fd, F⟩ := E.hasG _ in_m_Write_kind
  exact raw0 (ok fd F) (F.bindsN fun _ _ _ _ _ _ us hl => match us, hl with | [_], _ => rfl)
theorem mk_m_Write_text (E : Env P w K mg base) {k : Nat} {S : Spec K} (ok : ∀ fd, FunD K "text" "Write.text" (defArgs m_Write_text) (defBody m_Write_text) (defScope m_Write_text) [] [] (gtr K (He.ga K "Write") "text") fd → FnOk P w K mg base (L2.CX P w) k (gtr K (He.ga K "Write") "text") fd ["self"] (spD K S)) : FnR P w K mg base (L2.CX P w) k (gtr K (He.ga K "Write") "text") (spD K S) := by
  obtain ⟨fd, F⟩ := E.hasG _ in_m_Write_text
  exact raw0 (ok fd F) (F.bindsN fun _ _ _ _ _ _ us hl => match us, hl with | [_], _ => rfl)
theorem mk_m_Write_lead (E : Env P w K mg base) {k : Nat} {S : Spec K} (ok : ∀ fd, FunD K "lead" "Write.lead" (defArgs m_Write_lead) (defBody m_Write_lead) (defScope m_Write_lead) [] [] (gtr K (He.ga K "Write") "lead") fd → FnOk P w K mg base (L2.CX P w) k (gtr K (He.ga K "Write") "lead") fd ["self"] (spD K S)) : FnR P w K mg base (L2.CX P w) k (gtr K (He.ga K "Write") "lead") (spD K S) := by
  obtain ⟨fd, F⟩ := E.hasG _ in_m_Write_lead
  exact raw0 (ok fd F) (F.bindsN fun _ _ _ _ _ _ us hl => match us, hl with | [_], _ => rfl)
theorem mk_m_Write_tail (E : Env P w K mg base) {k : Nat} {S : Spec K} (ok : ∀ fd, FunD K "tail" "Write.tail" (defArgs m_Write_tail) (defBody m_Write_tail) (defScope m_Write_tail) [] [] (gtr K (He.ga K "Write") "tail") fd → FnOk P w K mg base (L2.CX P w) k (gtr K (He.ga K "Write") "tail") fd ["self"] (spD K S)) : FnR P w K mg base (L2.CX P w) k (gtr K (He.ga K "Write") "tail") (spD K S) := by
  obtain ⟨fd, F⟩ := E.hasG _ in_m_Write_tail
  exact raw0 (ok fd F) (F.bindsN fun _ _ _ _ _ _ us hl => match us, hl with | [_], _ => rfl)
theorem mk_m_Write_len (E : Env P w K mg base) {k : Nat} {S : Spec K} (ok : ∀ fd, FunD K "__len__" "Write.__len__" (defArgs m_Write_len) (defBody m_Write_len) (defScope m_Write_len) [] [] (He.ma K (He.ga K "Write") "__len__") fd → FnOk P w K mg base (L2.CX P w) k (He.ma K (He.ga K "Write") "__len__") fd ["self"] (spD K S)) : FnR P w K mg base (L2.CX P w) k (He.ma K (He.ga K "Write") "__len__") (spD K S) := by
  obtain ⟨fd, F⟩ := E.has _ in_m_Write_len
  exact raw0 (ok fd F) (F.bindsN fun _ _ _ _ _ _ us hl => match us, hl with | [_], _ => rfl)
theorem mk_m_Write_eq (E : Env P w K mg base) {k : Nat} {S : Spec K} (ok : ∀ fd, FunD K "__eq__" "Write.__eq__" (defArgs m_Write_eq) (defBody m_Write_eq) (defScope m_Write_eq) [] [] (He.ma K (He.ga K "Write") "__eq__") fd → FnOk P w K mg base (L2.CX P w) k (He.ma K (He.ga K "Write") "__eq__") fd ["self", "other"] (spD K S)) : FnR P w K mg base (L2.CX P w) k (He.ma K (He.ga K "Write") "__eq__") (spD K S) := by
  obtain ⟨fd, F⟩ := E.has _ in_m_Write_eq
  exact raw0 (ok fd F) (F.bindsN fun _ _ _ _ _ _ us hl => match us, hl with | [_, _], _ => rfl)
theorem mk_f_look_at_writes (E : Env P w K mg base) {k : Nat} {S : Spec K} (ok : ∀ fd, FunD K "look_at_writes" "look_at_writes" (defArgs f_look_at_writes) (defBody f_look_at_writes) (defScope f_look_at_writes) [] [] (He.ga K "look_at_writes") fd → FnOk P w K mg base (L2.CX P w) k (He.ga K "look_at_writes") fd ["name", "writes"] (spD K S)) : Def P w K mg base "look_at_writes" k ["name", "writes"] [] S := by
  obtain ⟨fd, F⟩ := E.has _ in_f_look_at_writes
  exact Def.of E.g_look_at_writes F (ok fd F) fun _ _ _ _ _ _ us hl => match us, hl with | [_, _], _ => rfl
theorem mk_m_Cast_init (E : Env P w K mg base) {k : Nat} {S : Spec K} (ok : ∀ fd, FunD K "__init__" "Cast.__init__" (defArgs m_Cast_init) (defBody m_Cast_init) (defScope m_Cast_init) [] [] (He.ma K (He.ga K "Cast") "__init__") fd → FnOk P w K mg base (L2.CX P w) k (He.ma K (He.ga K "Cast") "__init__") fd ["self", "works"] (spD K S)) : FnR P w K mg base (L2.CX P w) k (He.ma K (He.ga K "Cast") "__init__") (spD K S) := by
  obtain ⟨fd, F⟩ := E.has _ in_m_Cast_init
  exact raw0 (ok fd F) (F.bindsN fun _ _ _ _ _ _ us hl => match us, hl with | [_, _], _ => rfl)
theorem mk_m_Cast_names (E : Env P w K mg base) {k : Nat} {S : Spec K} (ok : ∀ fd, FunD K "names" "Cast.names" (defArgs m_Cast_names) (defBody m_Cast_names) (defScope m_Cast_names) [] [] (gtr K (He.ga K "Cast") "names") fd → FnOk P w K mg base (L2.CX P w) k (gtr K (He.ga K "Cast") "names") fd ["self"] (spD K S)) : FnR P w K mg base (L2.CX P w) k (gtr K (He.ga K "Cast") "names") (spD K S) := by
  obtain ⟨fd, F⟩ := E.hasG _ in_m_Cast_names
  exact raw0 (ok fd F) (F.bindsN fun _ _ _ _ _ _ us hl => match us, hl with | [_], _ => rfl)
theorem mk_m_Cast_getitem (E : Env P w K mg base) {k : Nat} {S : Spec K} (ok : ∀ fd, FunD K "__getitem__" "Cast.__getitem__" (defArgs m_Cast_getitem) (defBody m_Cast_getitem) (defScope m_Cast_getitem) [] [] (He.ma K (He.ga K "Cast") "__getitem__") fd → FnOk P w K mg base (L2.CX P w) k (He.ma K (He.ga K "Cast") "__getitem__") fd ["self", "name"] (spD K S)) : FnR P w K mg base (L2.CX P w) k (He.ma K (He.ga K "Cast") "__getitem__") (spD K S) := by
  obtain ⟨fd, F⟩ := E.has _ in_m_Cast_getitem
  exact raw0 (ok fd F) (F.bindsN fun _ _ _ _ _ _ us hl => match us, hl with | [_, _], _ => rfl)
theorem mk_m_Cast_contains (E : Env P w K mg base) {k : Nat} {S : Spec K} (ok : ∀ fd, FunD K "__contains__" "Cast.__contains__" (defArgs m_Cast_contains) (defBody m_Cast_contains) (defScope m_Cast_contains) [] [] (He.ma K (He.ga K "Cast") "__contains__") fd → FnOk P w K mg base (L2.CX P w) k (He.ma K (He.ga K "Cast") "__contains__") fd ["self", "name"] (spD K S)) : FnR P w K mg base (L2.CX P w) k (He.ma K (He.ga K "Cast") "__contains__") (spD K S) := by
  obtain ⟨fd, F⟩ := E.has _ in_m_Cast_contains
  exact raw0 (ok fd F) (F.bindsN fun _ _ _ _ _ _ us hl => match us, hl with | [_, _], _ => rfl)
theorem mk_m_Cast_iter (E : Env P w K mg base) {k : Nat} {S : Spec K} (ok : ∀ fd, FunD K "__iter__" "Cast.__iter__" (defArgs m_Cast_iter) (defBody m_Cast_iter) (defScope m_Cast_iter) [] [] (He.ma K (He.ga K "Cast") "__iter__") fd → FnOk P w K mg base (L2.CX P w) k (He.ma K (He.ga K "Cast") "__iter__") fd ["self"] (spD K S)) : FnR P w K mg base (L2.CX P w) k (He.ma K (He.ga K "Cast") "__iter__") (spD K S) := by
  obtain ⟨fd, F⟩ := E.has _ in_m_Cast_iter
  exact raw0 (ok fd F) (F.bindsN fun _ _ _ _ _ _ us hl => match us, hl with | [_], _ => rfl)
theorem mk_m_Cast_len (E : Env P w K mg base) {k : Nat} {S : Spec K} (ok : ∀ fd, FunD K "__len__" "Cast.__len__" (defArgs m_Cast_len) (defBody m_Cast_len) (defScope m_Cast_len) [] [] (He.ma K (He.ga K "Cast") "__len__") fd → FnOk P w K mg base (L2.CX P w) k (He.ma K (He.ga K "Cast") "__len__") fd ["self"] (spD K S)) : FnR P w K mg base (L2.CX P w) k (He.ma K (He.ga K "Cast") "__len__") (spD K S) := by
  obtain ⟨fd, F⟩ := E.has _ in_m_Cast_len
  exact raw0 (ok fd F) (F.bindsN fun _ _ _ _ _ _ us hl => match us, hl with | [_], _ => rfl)
theorem mk_m_Cast_eq (E : Env P w K mg base) {k : Nat} {S : Spec K} (ok : ∀ fd, FunD K "__eq__" "Cast.__eq__" (defArgs m_Cast_eq) (defBody m_Cast_eq) (defScope m_Cast_eq) [] [] (He.ma K (He.ga K "Cast") "__eq__") fd → FnOk P w K mg base (L2.CX P w) k (He.ma K (He.ga K "Cast") "__eq__") fd ["self", "other"] (spD K S)) : FnR P w K mg base (L2.CX P w) k (He.ma K (He.ga K "Cast") "__eq__") (spD K S) := by
  obtain ⟨fd, F⟩ := E.has _ in_m_Cast_eq
  exact raw0 (ok fd F) (F.bindsN fun _ _ _ _ _ _ us hl => match us, hl with | [_, _], _ => rfl)
theorem mk_m_Cast_add (E : Env P w K mg base) {k : Nat} {S : Spec K} (ok : ∀ fd, FunD K "__add__" "Cast.__add__" (defArgs m_Cast_add) (defBody m_Cast_add) (defScope m_Cast_add) [] [] (He.ma K (He.ga K "Cast") "__add__") fd → FnOk P w K mg base (L2.CX P w) k (He.ma K (He.ga K "Cast") "__add__") fd ["self", "other"] (spD K S)) : FnR P w K mg base (L2.CX P w) k (He.ma K (He.ga K "Cast") "__add__") (spD K S) := by
  obtain ⟨fd, F⟩ := E.has _ in_m_Cast_add
  exact raw0 (ok fd F) (F.bindsN fun _ _ _ _ _ _ us hl => match us, hl with | [_, _], _ => rfl)
theorem mk_m_Cast_gaps (E : Env P w K mg base) {k : Nat} {S : Spec K} (ok : ∀ fd, FunD K "gaps" "Cast.gaps" (defArgs m_Cast_gaps) (defBody m_Cast_gaps) (defScope m_Cast_gaps) [] [] (He.ma K (He.ga K "Cast") "gaps") fd → FnOk P w K mg base (L2.CX P w) k (He.ma K (He.ga K "Cast") "gaps") fd ["self"] (spD K S)) : FnR P w K mg base (L2.CX P w) k (He.ma K (He.ga K "Cast") "gaps") (spD K S) := by
  obtain ⟨fd, F⟩ := E.has _ in_m_Cast_gaps
  exact raw0 (ok fd F) (F.bindsN fun _ _ _ _ _ _ us hl => match us, hl with | [_], _ => rfl)
theorem mk_f_Lmix (E : Env P w K mg base) {k : Nat} {S : Spec K} (ok : ∀ fd, FunD K "_law_mix" "_law_mix" (defArgs f_Lmix) (defBody f_Lmix) (defScope f_Lmix) [] [] (He.ga K "_law_mix") fd → FnOk P w K mg base (L2.CX P w) k (He.ga K "_law_mix") fd ["_law_script", "_law_seed"] (spD K S)) : Def P w K mg base "_law_mix" k ["_law_script", "_law_seed"] [] S := by
  obtain ⟨fd, F⟩ := E.has _ in_f_Lmix
  exact Def.of E.g__law_mix F (ok fd F) fun _ _ _ _ _ _ us hl => match us, hl with | [_, _], _ => rfl
theorem mk_f_Lnext (E : Env P w K mg base) {k : Nat} {S : Spec K} (ok : ∀ fd, FunD K "_law_next" "_law_next" (defArgs f_Lnext) (defBody f_Lnext) (defScope f_Lnext) [] [] (He.ga K "_law_next") fd → FnOk P w K mg base (L2.CX P w) k (He.ga K "_law_next") fd ["_law_h", "_law_bound"] (spD K S)) : Def P w K mg base "_law_next" k ["_law_h", "_law_bound"] [] S := by
  obtain ⟨fd, F⟩ := E.has _ in_f_Lnext
  exact Def.of E.g__law_next F (ok fd F) fun _ _ _ _ _ _ us hl => match us, hl with | [_, _], _ => rfl
theorem mk_f_Lletters (E : Env P w K mg base) {k : Nat} {S : Spec K} (ok : ∀ fd, FunD K "_law_letters" "_law_letters" (defArgs f_Lletters) (defBody f_Lletters) (defScope f_Lletters) [] [] (He.ga K "_law_letters") fd → FnOk P w K mg base (L2.CX P w) k (He.ga K "_law_letters") fd ["_law_h", "_law_most"] (spD K S)) : Def P w K mg base "_law_letters" k ["_law_h", "_law_most"] [] S := by
  obtain ⟨fd, F⟩ := E.has _ in_f_Lletters
  exact Def.of E.g__law_letters F (ok fd F) fun _ _ _ _ _ _ us hl => match us, hl with | [_, _], _ => rfl
theorem mk_f_Lone (E : Env P w K mg base) {k : Nat} {S : Spec K} (ok : ∀ fd, FunD K "_law_one" "_law_one" (defArgs f_Lone) (defBody f_Lone) (defScope f_Lone) [] [] (He.ga K "_law_one") fd → FnOk P w K mg base (L2.CX P w) k (He.ga K "_law_one") fd ["_law_h", "_law_form", "_law_most"] (spD K S)) : Def P w K mg base "_law_one" k ["_law_h", "_law_form", "_law_most"] [] S := by
  obtain ⟨fd, F⟩ := E.has _ in_f_Lone
  exact Def.of E.g__law_one F (ok fd F) fun _ _ _ _ _ _ us hl => match us, hl with | [_, _, _], _ => rfl
theorem mk_f_Lrowof (E : Env P w K mg base) {k : Nat} {S : Spec K} (ok : ∀ fd, FunD K "_law_rowof" "_law_rowof" (defArgs f_Lrowof) (defBody f_Lrowof) (defScope f_Lrowof) [] [] (He.ga K "_law_rowof") fd → FnOk P w K mg base (L2.CX P w) k (He.ga K "_law_rowof") fd ["_law_h", "_law_many", "_law_most"] (spD K S)) : Def P w K mg base "_law_rowof" k ["_law_h", "_law_many", "_law_most"] [] S := by
  obtain ⟨fd, F⟩ := E.has _ in_f_Lrowof
  exact Def.of E.g__law_rowof F (ok fd F) fun _ _ _ _ _ _ us hl => match us, hl with | [_, _, _], _ => rfl
theorem mk_f_Ltable (E : Env P w K mg base) {k : Nat} {S : Spec K} (ok : ∀ fd, FunD K "_law_table" "_law_table" (defArgs f_Ltable) (defBody f_Ltable) (defScope f_Ltable) [] [] (He.ga K "_law_table") fd → FnOk P w K mg base (L2.CX P w) k (He.ga K "_law_table") fd ["_law_h", "_law_works", "_law_total", "_law_most"] (spD K S)) : Def P w K mg base "_law_table" k ["_law_h", "_law_works", "_law_total", "_law_most"] [] S := by
  obtain ⟨fd, F⟩ := E.has _ in_f_Ltable
  exact Def.of E.g__law_table F (ok fd F) fun _ _ _ _ _ _ us hl => match us, hl with | [_, _, _, _], _ => rfl
theorem mk_f_Lbuilt (E : Env P w K mg base) {k : Nat} {S : Spec K} (ok : ∀ fd, FunD K "_law_built" "_law_built" (defArgs f_Lbuilt) (defBody f_Lbuilt) (defScope f_Lbuilt) [] [] (He.ga K "_law_built") fd → FnOk P w K mg base (L2.CX P w) k (He.ga K "_law_built") fd ["_law_t"] (spD K S)) : Def P w K mg base "_law_built" k ["_law_t"] [] S := by
  obtain ⟨fd, F⟩ := E.has _ in_f_Lbuilt
  exact Def.of E.g__law_built F (ok fd F) fun _ _ _ _ _ _ us hl => match us, hl with | [_], _ => rfl
theorem mk_f_Lgapsof (E : Env P w K mg base) {k : Nat} {S : Spec K} (ok : ∀ fd, FunD K "_law_gapsof" "_law_gapsof" (defArgs f_Lgapsof) (defBody f_Lgapsof) (defScope f_Lgapsof) [] [] (He.ga K "_law_gapsof") fd → FnOk P w K mg base (L2.CX P w) k (He.ga K "_law_gapsof") fd ["_law_t"] (spD K S)) : Def P w K mg base "_law_gapsof" k ["_law_t"] [] S := by
  obtain ⟨fd, F⟩ := E.has _ in_f_Lgapsof
  exact Def.of E.g__law_gapsof F (ok fd F) fun _ _ _ _ _ _ us hl => match us, hl with | [_], _ => rfl
theorem mk_f_Lsome (E : Env P w K mg base) {k : Nat} {S : Spec K} (ok : ∀ fd, FunD K "_law_some" "_law_some" (defArgs f_Lsome) (defBody f_Lsome) (defScope f_Lsome) [] [] (He.ga K "_law_some") fd → FnOk P w K mg base (L2.CX P w) k (He.ga K "_law_some") fd ["_law_h", "_law_things"] (spD K S)) : Def P w K mg base "_law_some" k ["_law_h", "_law_things"] [] S := by
  obtain ⟨fd, F⟩ := E.has _ in_f_Lsome
  exact Def.of E.g__law_some F (ok fd F) fun _ _ _ _ _ _ us hl => match us, hl with | [_, _], _ => rfl
theorem mk_f_Lbeginning (E : Env P w K mg base) {k : Nat} {S : Spec K} (ok : ∀ fd, FunD K "_law_beginning" "_law_beginning" (defArgs f_Lbeginning) (defBody f_Lbeginning) (defScope f_Lbeginning) [] [] (He.ga K "_law_beginning") fd → FnOk P w K mg base (L2.CX P w) k (He.ga K "_law_beginning") fd ["_law_h", "_law_t", "_law_held"] (spD K S)) : Def P w K mg base "_law_beginning" k ["_law_h", "_law_t", "_law_held"] [] S := by
  obtain ⟨fd, F⟩ := E.has _ in_f_Lbeginning
  exact Def.of E.g__law_beginning F (ok fd F) fun _ _ _ _ _ _ us hl => match us, hl with | [_, _, _], _ => rfl
theorem mk_f_Lwrong (E : Env P w K mg base) {k : Nat} {S : Spec K} (ok : ∀ fd, FunD K "_law_wrong" "_law_wrong" (defArgs f_Lwrong) (defBody f_Lwrong) (defScope f_Lwrong) [] [] (He.ga K "_law_wrong") fd → FnOk P w K mg base (L2.CX P w) k (He.ga K "_law_wrong") fd ["_law_t", "_law_names", "_law_held"] (spD K S)) : Def P w K mg base "_law_wrong" k ["_law_t", "_law_names", "_law_held"] [] S := by
  obtain ⟨fd, F⟩ := E.has _ in_f_Lwrong
  exact Def.of E.g__law_wrong F (ok fd F) fun _ _ _ _ _ _ us hl => match us, hl with | [_, _, _], _ => rfl
theorem mk_f_law (E : Env P w K mg base) {k : Nat} {S : Spec K} (ok : ∀ fd, FunD K "law" "law" (defArgs f_law) (defBody f_law) (defScope f_law) [] [] (He.ga K "law") fd → FnOk P w K mg base (L2.CX P w) k (He.ga K "law") fd ["_law_script"] (spD K S)) : Def P w K mg base "law" k ["_law_script"] [] S := by
  obtain ⟨fd, F⟩ := E.has _ in_f_law
  exact Def.of E.g_law F (ok fd F) fun _ _ _ _ _ _ us hl => match us, hl with | [_], _ => rfl
end
end LK
set_option Elab.async false
set_option linter.all false
set_option maxRecDepth 100000
set_option maxHeartbeats 4000000
namespace DL
open PySem PySem.Spec PyProof.Rows L2
/-! ### the head: the objects that the looks ask for, by their kinds -/
/-- what stands behind a function -/
def behF (g : Addr → Option Obj) (a : Addr) : List Addr := match g a with
  | some ⟨_, _, .func fd, _⟩ => He.refV fd.code ++ ((He.refV fd.defaults ++ He.refV fd.kwdefaults).flatMap fun b => b :: (match g b with
    | some o => He.refsO o
    | none => []))
  | _ => []
/-- .. behind what stands in a class: a function, a property with its getter -/
def behM (g : Addr → Option Obj) (a : Addr) : List Addr := match g a with
  | some ⟨_, _, .func _, _⟩ => a :: behF g a
  | some ⟨_, _, .fields vs, _⟩ => a :: ((vs.toList.flatMap He.refV).flatMap fun b => b :: behF g b)
  | some _ => [a]
  | none => []
/-- .. behind a name of the module -/
def behG (g : Addr → Option Obj) (a : Addr) : List Addr := match g a with
  | some ⟨_, _, .func _, _⟩ => behF g a
  | some ⟨_, _, .cls cd, _⟩ => cd.ns :: (match g cd.ns with
    | some o => (He.refsO o).flatMap (behM g)
    | none => [])
  | _ => []
def topG (g : Addr → Option Obj) : List Addr := match g mainGlobals with
  | some o => He.refsO o
  | none => []
def asS (g : Addr → Option Obj) : List Addr := mainGlobals :: (topG g ++ (topG g).flatMap (behG g))
def KS (g : Addr → Option Obj) : PySem.W.Frag := He.frT g (asS g)
def obsS (fn gs : List He.DefD) (tf : List He.Defn) (ex : PySem.W.Frag → Bool) (g : Addr → Option Obj) : AlP := ((He.obsT [] fn [] (KS g), exP gs ex (KS g) && He.tabsB g tf (KS g)), gs.map fun d => fnP (KS g) d.at_)
structure SaysS (fn gs : List He.DefD) (tf : List He.Defn) (ex : PySem.W.Frag → Bool) (w : World) (h : Heap) (K : PySem.W.Frag) : Prop where
  x : He.SaysX [] fn [] tf (exP gs ex) w h K
  g : (gs.map fun d => fnP K d.at_) = gs.map He.DefD.val
theorem SaysS.p {fn gs : List He.DefD} {tf : List He.Defn} {ex : PySem.W.Frag → Bool} {w : World} {h : Heap} {K : PySem.W.Frag} (c : SaysS fn gs tf ex w h K) : SaysP fn gs ex w h K := ⟨⟨c.x.t, c.x.more, (fun _ z => nomatch z), (fun _ z => nomatch z), (fun _ z => nomatch z)⟩, c.g⟩
theorem saysS_of {fn gs : List He.DefD} {tf : List He.Defn} {ex : PySem.W.Frag → Bool} {w : World} {h : Heap} (e : obsS fn gs tf ex h.get? = ((He.valT fn [] w, true), gs.map He.DefD.val)) : SaysS fn gs tf ex w h (KS h.get?) := by
  have e1 : He.obsT [] fn [] (KS h.get?) = He.valT fn [] w := congrArg (fun z : AlP => z.1.1) e
  have e2 : (exP gs ex (KS h.get?) && He.tabsB h.get? tf (KS h.get?)) = true := congrArg (fun z : AlP => z.1.2) e
  have e3 : (gs.map fun d => fnP (KS h.get?) d.at_) = gs.map He.DefD.val := congrArg (fun z : AlP => z.2) e
  obtain ⟨h1, h2⟩ := He.ba e2
  have key : ∀ p ∈ tf, PySem.W.codeHdIn (KS h.get?) (He.cT (KS h.get?) p).1 (He.cT (KS h.get?) p).2 = true ∧ ∃ o, h.get? (He.cT (KS h.get?) p).2 = some o ∧ He.emptyTab o = true := fun p hp => by
    obtain ⟨q1, q2⟩ := He.ba (List.all_eq_true.mp h2 p hp)
    cases q : h.get? (He.cT (KS h.get?) p).2 with
    | none => rw [q] at q2; cases q2
    | some o => rw [q] at q2; exact ⟨q1, o, rfl, q2⟩
  refine ⟨⟨e1, h1, fun p hp => (key p hp).1, fun p hp => ?_, fun p hp => ?_⟩, e3⟩
  · obtain ⟨_, o, q, z⟩ := key p hp
    exact He.frT_none q z
  · obtain ⟨_, o, q, z⟩ := key p hp
    rw [q, He.emptyTab_eq z]
def hookS (fn gs : List He.DefD) (tf : List He.Defn) (ex : PySem.W.Frag → Bool) : PySem.W.Hook where
  α := AlP
  obs := fun s => obsS fn gs tf ex s.heap.get?
  val := fun w => ((He.valT fn [] w, true), gs.map He.DefD.val)
  says := fun w h => ∃ K : PySem.W.Frag, K.In h ∧ SaysS fn gs tf ex w h K
  of := fun _ _ e => ⟨_, He.frT_in, saysS_of e⟩
  keeps := fun _ _ _ ⟨K, hK, c⟩ k => ⟨K, PySem.W.Frag.In.keeps hK k, ⟨⟨c.x.t, c.x.more, c.x.hd, c.x.out, fun p hp => k _ _ (c.x.empty p hp)⟩, c.g⟩⟩
theorem obsS_eq {fn gs : List He.DefD} {tf : List He.Defn} {ex : PySem.W.Frag → Bool} {g : Addr → Option Obj} {s : Shared} (h : ∀ a, g a = s.heap.get? a) : obsS fn gs tf ex g = (show AlP from (hookS fn gs tf ex).obs s) := by
  have e : g = s.heap.get? := funext h
  rw [e]; rfl
end DL
set_option Elab.async false
set_option linter.all false
set_option maxRecDepth 100000
set_option maxHeartbeats 0
namespace LK
open PySem PySem.Spec PyProof.Rows L2 DL
abbrev Rr : PySem.W.OpenRow := PySem.W.OpenLaw.row PySem.Challenge.rw_linesharing_k16_orders_refused
def fn : List He.DefD := fnL
def gs : List He.DefD := gsL
def ex (K : PySem.W.Frag) : Bool := lkL K
abbrev hk : PySem.W.Hook := hookS fn gs [] ex
def ob (s : PySem.W.SharedT) : AlP := obsS fn gs [] ex (HandSHeadRun.getT s)
theorem ob_eq (s : PySem.W.SharedT) : ob s = hk.obs s.abs := obsS_eq (HandSHeadRun.getT_eq s)
def loose0 : List Str := ["_wall", "LineError", "InvalidWrite", "InvalidCast", "UnknownWork", "Clash", "WrongGap", "WrongOrder", "is_integer", "is_pair", "holds_of", "Course", "checked_order", "order_number", "broken_gaps", "LETTERS", "FIGURES", "SIGNS", "SAY", "ASK", "REPLY", "SHOW", "KINDS", "LEADS", "TAILS", "MOST_SIGNS", "MOST_NAME", "MOST_WORKS", "MOST_WRITES", "is_text"]
def loose1 : List Str := ["is_name", "is_one_of", "Write", "look_at_writes", "Cast", "_law_mix", "_law_next", "_law_letters", "_law_one", "_law_rowof", "_law_table", "_law_built", "_law_gapsof", "_law_some", "_law_beginning", "_law_wrong"]
def loose : List Str := loose0 ++ loose1
theorem run (w : World) : HandSHeadRun.RunEq Rr (PySem.W.view Rr.prog [51]) hk ob 30000 loose w := by
  intro os
  kernel_rfl
end LK
set_option Elab.async false
set_option linter.all false
set_option maxRecDepth 100000
set_option maxHeartbeats 1000000
namespace LK
open PySem PySem.Spec PyProof.Rows L2 DL
abbrev SIGNS : Str := Str.ofString ("abcdefghijklmnopqrstuvwxyzABCDEFGHIJKLMNOPQRSTUVWXYZ0123456789 !\"#$&'()*+,-./:;<=>?@" ++ "[\\]^_`{|}~")
abbrev kinds : List Str := ["say", "ask", "reply", "show"]
abbrev leads : List Str := ["", "return", "wipe", "fresh"]
abbrev tails : List Str := ["", "erase", "newline"]
abbrev cW (K : PySem.W.Frag) : Addr := He.ga K "Write"
section
variable {X : Cx} {W : WX} {es : List Expr} {e : Expr} {δ : DEnv} {I : Iv X.K} {κ : Ko X.K} {pos p pos2 : Pos} {x : Str} {ps ks : List Str}
/-- raise C(e, ..) -/
theorem s_rz (tk : Takes X W) (T : TExc X.K X.mg x) (F1 : ∃ fd, FnOk X.prog X.w X.K X.mg X.base (L2.CX X.prog X.w) 1 (He.ma X.K (He.ga X.K x) "__init__") fd ps (spXIC (He.ga X.K x) ks) ∧ L2.Binds X.K fd ps []) (hr : Room 2 X.A)
    (h : EvA X W (κ.r δ) (e :: es) δ I fun ds I1 => ks.length = ds.length ∧ ds.length ≤ 10 ∧ κ.ex (He.ga X.K x) (ks.zip ds).reverse δ I1) (hc : X.calm = true := by rfl) (hg : Gl X x := by rfl) (hdb : (x == ("__debug__" : Str)) = false := by decide)
    (he : starEach (e :: es) X.env = (false, eval e X.env) :: starEach es X.env := by rfl) (hpl : (backTo pos (starEach es X.env)).any (·.1) = false := by rfl) : S1 X W (.Raise (some (.Call (.Name x p) (e :: es) [] pos)) none pos2) δ I κ := by
  obtain ⟨fd, F, b⟩ := F1
  exact s_raise tk T.oe T.iC T.tI F hr b T.g h hc hg hdb he hpl
end
/-- what is_text says -/
def isTextD : D → Bool
  | .str s => decide (s.length ≤ 40) && s.cps.toList.all fun c => decide (c ∈ SIGNS.cps.toList)
  | _ => false
def okV (d : D) : Prop := (∃ t, tyD d = some t) ∧ ∀ s, d = .str s → s.length ≤ 100000
def sIsText {K : PySem.W.Frag} : Spec K := fun I ds P _ => ∃ d, ds = [d] ∧ okV d ∧ P (.bl (isTextD d)) I
section
variable {P : Program} {w : World} {K : PySem.W.Frag} {mg : Str → Option Value} {base : Heap} {f : Addr} {fd : FuncData}
theorem ok_is_text (F : FnP K "is_text" "is_text" f_is_text f fd) (E : Env P w K mg base) : FnOk P w K mg base (L2.CX P w) 1 f fd ["value"] (spD K sIsText) := by
  refine fn_d F sc_f_is_text (fun I ds P R h => by obtain ⟨d, rfl, _⟩ := h; rfl) fun cdv A outer s H EE hr tk po I ds Q R h => ?_
  obtain ⟨d, rfl, ⟨⟨t, ht⟩, hz⟩, q⟩ := h
  have nd := sc_f_is_text.nd
  rcases str_or d ht with ⟨z, rfl⟩ | ⟨hk, hn⟩
  · have hl := hz z rfl
    refine s_cons (s_ifP (ptw (ww_or (ptn (pt_v (pv_cb call_isi E.b_isinstance (va_cons (pv_v 0) (va_cons (pv_gty (n := "str") E.b_str) va_nil)) (pn_isiT (t := "str") rfl)))) fun _ => ww_or1 (pt_cmp op_gt (pv_cb call_len_str E.b_len (va_cons (pv_v 0) va_nil) (pn_lenS hl)) (pv_gint E.c_MOST_SIGNS) p2_gt))) (fun e => ?_) fun e => ?_)
    · refine s_one (s_retP pv_bl ?_)
      have e2 : (40 : Int) < z.length := by simpa using e
      have e3 : isTextD (.str z) = false := by simp [isTextD]; omega
      rw [← e3]; exact q
    · refine s_nil ?_
      have e2 : ¬ (40 : Int) < z.length := by simpa using e
      have el : D.lst ((z.cps.toList.map fun c => D.str ⟨#[c]⟩).map fun d => .bl (match d with | .str s => decide (s.cps.toList.headD 0 ∈ SIGNS.cps.toList) | _ => false)) = .lst ((z.cps.toList.map fun c => decide (c ∈ SIGNS.cps.toList)).map D.bl) := by
        rw [List.map_map, List.map_map]; rfl
      refine s_one (s_retP (pv_cb (cr_all rfl) E.b_all (va_cons ((pv_lcMap _ [("sign", 1)] (fun d => [some (.str z), some d]) (vi_str (pv_v 0)) (by rw [List.length_map, Array.length_toList]; exact Nat.le_trans hl (by decide)) (fun d s H C cl fp => bind_name 1) fun d hd J s H C cl fp => ?_).is el) va_nil) pn_all) ?_)
      · obtain ⟨c, hc, rfl⟩ := List.mem_map.mp hd
        exact pv_cmp op_signIn (pv_v 1) (pv_gstr E.c_SIGNS) p2_signIn
      · have e3 : isTextD (.str z) = (z.cps.toList.map fun c => decide (c ∈ SIGNS.cps.toList)).all id := by
          have e4 : (40 : Nat) ≥ z.length := by omega
          simp only [isTextD, List.all_map]
          rw [decide_eq_true e4, Bool.true_and]
          rfl
        rw [← e3]; exact q
  · have e3 : isTextD d = false := by
      cases d <;> first | rfl | exact absurd rfl (hn _)
    refine s_cons (s_ifT (ptw (ww_orT (ptn (k := false) (pt_v (pv_cb call_isi E.b_isinstance (va_cons (pv_v 0) (va_cons (pv_gty (n := "str") E.b_str) va_nil)) (pn_isiF ht hk)))))) (s_one (s_retP pv_bl ?_)))
    rw [← e3]
    exact q
/-- is_one_of -/
def isOneD (d : D) (ws : List Str) : Bool := match d with
  | .str s => decide (s ∈ ws)
  | _ => false
def sIsOne {K : PySem.W.Frag} : Spec K := fun I ds P _ => ∃ d ws, ds = [d, .tup (List.map D.str ws)] ∧ okV d ∧ P (.bl (isOneD d ws)) I
theorem ok_is_one_of (F : FnP K "is_one_of" "is_one_of" f_is_one_of f fd) (E : Env P w K mg base) : FnOk P w K mg base (L2.CX P w) 1 f fd ["value", "words"] (spD K sIsOne) := by
  refine fn_d F sc_f_is_one_of (fun I ds P R h => by obtain ⟨d, ws, rfl, _⟩ := h; rfl) fun cdv A outer s H EE hr tk po I ds Q R h => ?_
  obtain ⟨d, ws, rfl, ⟨⟨t, ht⟩, hz⟩, q⟩ := h
  rcases str_or d ht with ⟨z, rfl⟩ | ⟨hk, hn⟩
  · exact s_one (s_retP (pv_andT (pv_cb call_isi E.b_isinstance (va_cons (pv_v 0) (va_cons (pv_gty (n := "str") E.b_str) va_nil)) (pn_isiT (t := "str") rfl)) (pv_one (pv_cmp op_in_seq (pv_v 0) (pv_v 1) p2_inStr))) q)
  · have e3 : isOneD d ws = false := by
      cases d <;> first | rfl | exact absurd rfl (hn _)
    rw [e3] at q
    exact s_one (s_retP (pv_andF (pv_cb call_isi E.b_isinstance (va_cons (pv_v 0) (va_cons (pv_gty (n := "str") E.b_str) va_nil)) (pn_isiF ht hk))) q)
end
def isOneT (d : D) (s : Str) : Bool := match d with
  | .str z => decide (z = s)
  | _ => false
/-- the first part at fault -/
def wFault (k t l e : D) : Option Str :=
  if (!isOneD k kinds) = true then some ("kind" : Str) else
  if (!isTextD t || (isOneT t "" && isOneD k ["ask", "reply"])) = true then some ("text" : Str) else
  if (!isOneD l leads || (!isOneT l "" && isOneT k "reply")) = true then some ("lead" : Str) else
  if (!isOneD e tails || (!isOneT e "" && isOneT k "ask")) = true then some ("tail" : Str) else none
def sWInit {K : PySem.W.Frag} : Spec K := fun I ds P R => ∃ (x dx : Addr) (J : Iv K) (k t l e : D), ds = [.adr x, k, t, l, e] ∧ I = J.and (iSl K x (He.ga K "Write") dx []) ∧ okV k ∧ okV t ∧ okV l ∧ okV e ∧
  match wFault k t l e with
  | none => P .non (J.and (iSl K x (He.ga K "Write") dx [some l, some e, some k, some t]))
  | some part => R (He.ga K "InvalidWrite") [("part", .str part)] I
theorem isOneD_str {d : D} {ws : List Str} (h : isOneD d ws = true) : ∃ z, d = .str z := by
  cases d with
  | str z => exact ⟨z, rfl⟩
  | _ => cases h
theorem isTextD_str {d : D} (h : isTextD d = true) : ∃ z, d = .str z := by
  cases d with
  | str z => exact ⟨z, rfl⟩
  | _ => cases h
section
variable {P : Program} {w : World} {K : PySem.W.Frag} {mg : Str → Option Value} {base : Heap} {f : Addr} {fd : FuncData}
theorem ok_wInit {dvs : List V} {kws : List (Str × V)} (F : FunD K "__init__" "Write.__init__" (defArgs m_Write_init) (defBody m_Write_init) (defScope m_Write_init) dvs kws f fd) (E : Env P w K mg base)
    (DT : Def P w K mg base "is_text" 1 ["value"] [] sIsText) (DO : Def P w K mg base "is_one_of" 1 ["value", "words"] [] sIsOne) :
    FnOk P w K mg base (L2.CX P w) 3 f fd ["self", "kind", "text", "lead", "tail"] (spD K sWInit) := by
  refine fn_d F sc_m_Write_init (fun I ds P R h => by obtain ⟨x, dx, J, k, t, l, e, rfl, _⟩ := h; rfl) fun cdv A outer s H EE hr tk po I ds Q R h => ?_
  obtain ⟨x, dx, J, k, t, l, e, rfl, rfl, hk, ht, hl, he, q⟩ := h
  have nd := sc_m_Write_init.nd
  have hr1 : Room 1 _ := hr.mono (by decide)
  -- the kind
  refine s_cons (s_ifP (ptn (pt_v (pv_def DO hr1 (va_cons (pv_v 1) (va_cons (pv_gtup E.c_KINDS) va_nil)) fun P p => ⟨_, _, rfl, hk, p⟩))) (fun e1 => ?_) fun e1 => s_nil ?_)
  · refine s_one (s_rz tk E.x_InvalidWrite E.ini_InvalidWrite (hr.mono (by decide)) (ea_cons (pv_str _ _ _ (ea_nil ⟨rfl, by decide, ?_⟩))))
    have ef : wFault k t l e = some ("kind" : Str) := by unfold wFault; rw [if_pos e1]
    rw [ef] at q
    exact q
  have e1' : isOneD k kinds = true := by simpa using e1
  obtain ⟨zk, rfl⟩ := isOneD_str e1'
  -- the text
  refine s_cons (s_ifP (b := (!isTextD t || (isOneT t "" && isOneD (.str zk) ["ask", "reply"]))) (ptw (ww_or (ptn (pt_v (pv_def DT hr1 (va_cons (pv_v 2) va_nil) fun P p => ⟨_, rfl, ht, p⟩))) fun e2 => ?_)) (fun e2 => ?_) fun e2 => s_nil ?_)
  · have e2' : isTextD t = true := by simpa using e2
    obtain ⟨zt, rfl⟩ := isTextD_str e2'
    exact ww_or1 (ptw (ww_and (pt_cmp op_eq (pv_v 2) pv_str (eqV_str _ _)) fun _ => ww_and1 (pt_cmp op_in_seq (pv_v 1) (pv_tup (va_cons (pv_gstr E.c_ASK) (va_cons (pv_gstr E.c_REPLY) va_nil))) (p2_inStr (ws := ["ask", "reply"])))))
  · refine s_one (s_rz tk E.x_InvalidWrite E.ini_InvalidWrite (hr.mono (by decide)) (ea_cons (pv_str _ _ _ (ea_nil ⟨rfl, by decide, ?_⟩))))
    have ef : wFault (.str zk) t l e = some ("text" : Str) := by unfold wFault; rw [if_neg (by rw [e1']; simp), if_pos e2]
    rw [ef] at q
    exact q
  have e2' : isTextD t = true := by
    cases h : isTextD t with
    | true => rfl
    | false => rw [h] at e2; simp at e2
  obtain ⟨zt, rfl⟩ := isTextD_str e2'
  -- the lead
  refine s_cons (s_ifP (b := (!isOneD l leads || (!isOneT l "" && isOneT (.str zk) "reply"))) (ptw (ww_or (ptn (pt_v (pv_def DO hr1 (va_cons (pv_v 3) (va_cons (pv_gtup E.c_LEADS) va_nil)) fun P p => ⟨_, _, rfl, hl, p⟩))) fun e3 => ?_)) (fun e3 => ?_) fun e3 => s_nil ?_)
  · have e3' : isOneD l leads = true := by simpa using e3
    obtain ⟨zl, rfl⟩ := isOneD_str e3'
    exact ww_or1 (ptw (ww_and (pt_cmp op_ne (pv_v 3) pv_str (neV_str _ _)) fun _ => ww_and1 (pt_cmp op_eq (pv_v 1) (pv_gstr E.c_REPLY) (eqV_str _ _))))
  · refine s_one (s_rz tk E.x_InvalidWrite E.ini_InvalidWrite (hr.mono (by decide)) (ea_cons (pv_str _ _ _ (ea_nil ⟨rfl, by decide, ?_⟩))))
    have ef : wFault (.str zk) (.str zt) l e = some ("lead" : Str) := by unfold wFault; rw [if_neg (by rw [e1']; simp), if_neg (by rw [e2]; simp), if_pos e3]
    rw [ef] at q
    exact q
  -- the tail
  refine s_cons (s_ifP (b := (!isOneD e tails || (!isOneT e "" && isOneT (.str zk) "ask"))) (ptw (ww_or (ptn (pt_v (pv_def DO hr1 (va_cons (pv_v 4) (va_cons (pv_gtup E.c_TAILS) va_nil)) fun P p => ⟨_, _, rfl, he, p⟩))) fun e3 => ?_)) (fun e4 => ?_) fun e4 => s_nil ?_)
  · have e3' : isOneD e tails = true := by simpa using e3
    obtain ⟨zl, rfl⟩ := isOneD_str e3'
    exact ww_or1 (ptw (ww_and (pt_cmp op_ne (pv_v 4) pv_str (neV_str _ _)) fun _ => ww_and1 (pt_cmp op_eq (pv_v 1) (pv_gstr E.c_ASK) (eqV_str _ _))))
  · refine s_one (s_rz tk E.x_InvalidWrite E.ini_InvalidWrite (hr.mono (by decide)) (ea_cons (pv_str _ _ _ (ea_nil ⟨rfl, by decide, ?_⟩))))
    have ef : wFault (.str zk) (.str zt) l e = some ("tail" : Str) := by unfold wFault; rw [if_neg (by rw [e1']; simp), if_neg (by rw [e2]; simp), if_neg (by rw [e3]; simp), if_pos e4]
    rw [ef] at q
    exact q
  have ef : wFault (.str zk) (.str zt) l e = none := by unfold wFault; rw [if_neg (by rw [e1']; simp), if_neg (by rw [e2]; simp), if_neg (by rw [e3]; simp), if_neg (by rw [e4]; simp)]
  rw [ef] at q
  -- the slots
  refine s_cons (s_slot (.r J .here) E.k_Write.sc E.s_Write_mode (pv_v 0) (pv_v 1) ?_)
  refine s_cons (s_slot (.r J .here) E.k_Write.sc E.s_Write_signs (pv_v 0) (pv_v 2) ?_)
  refine s_cons (s_slot (.r J .here) E.k_Write.sc E.s_Write_ahead (pv_v 0) (pv_v 3) ?_)
  refine s_one (s_slot (.r J .here) E.k_Write.sc E.s_Write_behind (pv_v 0) (pv_v 4) ?_)
  exact q
end

/-- a write, as data -/
def wD (K : PySem.W.Frag) (k t l e : Str) : D := .slo (cW K) [.str l, .str e, .str k, .str t]
def sGet {K : PySem.W.Frag} (i : Nat) : Spec K := fun I ds P _ => ∃ (fs : List D) (d : D), ds = [.slo (cW K) fs] ∧ fs[i]? = some d ∧ P d I
def sStays {K : PySem.W.Frag} : Spec K := fun I ds P _ => ∃ k t l e, ds = [wD K k t l e] ∧ P (.bl (!decide (k = "show"))) I
def sWLen {K : PySem.W.Frag} : Spec K := fun I ds P _ => ∃ k t l e : Str, ds = [wD K k t l e] ∧ t.length ≤ 100000 ∧ P (.int t.length) I
def wEq (k t l e k' t' l' e' : Str) : Bool := decide (k = k') && (decide (t = t') && (decide (l = l') && decide (e = e')))
def sWEq {K : PySem.W.Frag} : Spec K := fun I ds P _ => ∃ k t l e : Str, (∃ k' t' l' e' : Str, ds = [wD K k t l e, wD K k' t' l' e'] ∧ P (.bl (wEq k t l e k' t' l' e')) I) ∨ ∃ (d : D) (ty : String), ds = [wD K k t l e, d] ∧ tyD d = some ty ∧ P (.bl false) I
section
variable {P : Program} {w : World} {K : PySem.W.Frag} {mg : Str → Option Value} {base : Heap} {f : Addr} {fd : FuncData}
theorem ok_kind (F : FnP K "kind" "Write.kind" m_Write_kind f fd) (E : Env P w K mg base) : FnOk P w K mg base (L2.CX P w) 1 f fd ["self"] (spD K (sGet 2)) := by
  refine fn_d F sc_m_Write_kind (fun I ds P R h => by obtain ⟨fs, d, rfl, _⟩ := h; rfl) fun cdv A outer s H EE hr tk po I ds Q R h => ?_
  obtain ⟨fs, d, rfl, hd, q⟩ := h
  exact s_one (s_retP (pv_sl E.k_Write.sc E.s_Write_mode (pv_v 0) hd) q)
theorem ok_text (F : FnP K "text" "Write.text" m_Write_text f fd) (E : Env P w K mg base) : FnOk P w K mg base (L2.CX P w) 1 f fd ["self"] (spD K (sGet 3)) := by
  refine fn_d F sc_m_Write_text (fun I ds P R h => by obtain ⟨fs, d, rfl, _⟩ := h; rfl) fun cdv A outer s H EE hr tk po I ds Q R h => ?_
  obtain ⟨fs, d, rfl, hd, q⟩ := h
  exact s_one (s_retP (pv_sl E.k_Write.sc E.s_Write_signs (pv_v 0) hd) q)
theorem ok_lead (F : FnP K "lead" "Write.lead" m_Write_lead f fd) (E : Env P w K mg base) : FnOk P w K mg base (L2.CX P w) 1 f fd ["self"] (spD K (sGet 0)) := by
  refine fn_d F sc_m_Write_lead (fun I ds P R h => by obtain ⟨fs, d, rfl, _⟩ := h; rfl) fun cdv A outer s H EE hr tk po I ds Q R h => ?_
  obtain ⟨fs, d, rfl, hd, q⟩ := h
  exact s_one (s_retP (pv_sl E.k_Write.sc E.s_Write_ahead (pv_v 0) hd) q)
theorem ok_tail (F : FnP K "tail" "Write.tail" m_Write_tail f fd) (E : Env P w K mg base) : FnOk P w K mg base (L2.CX P w) 1 f fd ["self"] (spD K (sGet 1)) := by
  refine fn_d F sc_m_Write_tail (fun I ds P R h => by obtain ⟨fs, d, rfl, _⟩ := h; rfl) fun cdv A outer s H EE hr tk po I ds Q R h => ?_
  obtain ⟨fs, d, rfl, hd, q⟩ := h
  exact s_one (s_retP (pv_sl E.k_Write.sc E.s_Write_behind (pv_v 0) hd) q)
theorem ok_wlen (F : FnP K "__len__" "Write.__len__" m_Write_len f fd) (E : Env P w K mg base) : FnOk P w K mg base (L2.CX P w) 1 f fd ["self"] (spD K sWLen) := by
  refine fn_d F sc_m_Write_len (fun I ds P R h => by obtain ⟨k, t, l, e, rfl, _⟩ := h; rfl) fun cdv A outer s H EE hr tk po I ds Q R h => ?_
  obtain ⟨k, t, l, e, rfl, hl, q⟩ := h
  exact s_one (s_retP (pv_cb call_len_str E.b_len (va_cons (pv_sl E.k_Write.sc E.s_Write_signs (pv_v 0) rfl) va_nil) (pn_lenS hl)) q)
theorem ok_weq (F : FnP K "__eq__" "Write.__eq__" m_Write_eq f fd) (E : Env P w K mg base) : FnOk P w K mg base (L2.CX P w) 1 f fd ["self", "other"] (spD K sWEq) := by
  refine fn_d F sc_m_Write_eq (fun I ds P R h => by obtain ⟨k, t, l, e, ⟨k', t', l', e', rfl, _⟩ | ⟨d, ty, rfl, _⟩⟩ := h <;> rfl) fun cdv A outer s H EE hr tk po I ds Q R h => ?_
  obtain ⟨k, t, l, e, h⟩ := h
  rcases h with ⟨k', t', l', e', rfl, q⟩ | ⟨d, ty, rfl, hty, q⟩
  · refine s_cons (s_ifF (ptn (k := true) (pt_v (pv_cb (SlX.call_isiSl (.ref (cW K))) E.b_isinstance (va_cons (pv_v 1) (va_cons (pv_gref E.g_Write) va_nil)) (pn_isiSl E.k_Write.sc E.k_Write.si E.k_Write.kW)))) (s_nil ?_))
    refine s_cons (s_ifP (b := (!decide (k = k') || !decide (t = t'))) (ptw (ww_or (pt_cmp op_ne (pv_sl E.k_Write.sc E.s_Write_mode (pv_v 0) rfl) (pv_sl E.k_Write.sc E.s_Write_mode (pv_v 1) rfl) (neV_str k k')) fun _ => ww_or1 (pt_cmp op_ne (pv_sl E.k_Write.sc E.s_Write_signs (pv_v 0) rfl) (pv_sl E.k_Write.sc E.s_Write_signs (pv_v 1) rfl) (neV_str t t')))) (fun e1 => ?_) fun e1 => s_nil ?_)
    · refine s_one (s_retP pv_bl ?_)
      have e2 : wEq k t l e k' t' l' e' = false := by
        unfold wEq
        rcases Bool.or_eq_true_iff.mp e1 with h | h
        · simp only [Bool.not_eq_true'] at h; rw [h]; rfl
        · simp only [Bool.not_eq_true'] at h; rw [h]; simp
      rw [e2] at q
      exact q
    · obtain ⟨h1, h2⟩ := Bool.or_eq_false_iff.mp e1
      have e2 : wEq k t l e k' t' l' e' = (decide (l = l') && decide (e = e')) := by
        unfold wEq
        simp only [Bool.not_eq_false'] at h1 h2
        rw [h1, h2]; rfl
      rw [e2] at q
      exact s_one (s_retP (pv_andB (pv_cmp op_eq (pv_sl E.k_Write.sc E.s_Write_ahead (pv_v 0) rfl) (pv_sl E.k_Write.sc E.s_Write_ahead (pv_v 1) rfl) (eqV_str l l')) fun _ => pv_one (pv_cmp op_eq (pv_sl E.k_Write.sc E.s_Write_behind (pv_v 0) rfl) (pv_sl E.k_Write.sc E.s_Write_behind (pv_v 1) rfl) (eqV_str e e'))) q)
  · exact s_cons (s_ifT (ptn (k := false) (pt_v (pv_cb call_isi E.b_isinstance (va_cons (pv_v 1) (va_cons (pv_gref E.g_Write) va_nil)) (pn_isiO hty (E.k_Write.kT _ (tyD_in hty)))))) (s_one (s_retP pv_bl q)))
end
abbrev psW : List Str := ["self", "kind", "text", "lead", "tail"]
section
variable {P : Program} {w : World} {K : PySem.W.Frag} {mg : Str → Option Value} {base : Heap}
theorem D_is_text (E : Env P w K mg base) : Def P w K mg base "is_text" 1 ["value"] [] sIsText := mk_f_is_text E fun fd F => ok_is_text F E
theorem D_is_one_of (E : Env P w K mg base) : Def P w K mg base "is_one_of" 1 ["value", "words"] [] sIsOne := mk_f_is_one_of E fun fd F => ok_is_one_of F E
theorem M_wInit (E : Env P w K mg base) : ∃ fI : FuncData, FnOk P w K mg base (L2.CX P w) 3 (He.ma K (cW K) "__init__") fI psW (spD K sWInit) ∧ (∃ g, KBn K fI psW 3 ["lead", "tail"] g fun vs zs => vs ++ zs) ∧ (∃ g, KBn K fI psW 3 ["tail", "lead"] g fun vs zs => vs ++ zs.reverse) ∧
    ∃ g, KBn K fI psW 3 [] g fun vs _ => vs ++ [V.str "", V.str ""] := by
  obtain ⟨fI, F3⟩ := E.has _ in_m_Write_init
  obtain ⟨_, b1⟩ := FunD.kbinds0 (ps := psW) F3 3 ["lead", "tail"] [] (fun us _ ws => us ++ ws) (by simp [He.DefD.kws, dM, d_m_Write_init]) (fun q hq => by simp at hq) (fun r1 _ r3 => r1.append r3) fun D doc pm an cdv ct us mv ws h1 h2 h3 => by
    match us, mv, ws, h1, h2, h3 with
    | [_, _, _], [], [_, _], _, _, _ => rfl
  obtain ⟨_, b2⟩ := FunD.kbinds0 (ps := psW) F3 3 ["tail", "lead"] [] (fun us _ ws => us ++ ws.reverse) (by simp [He.DefD.kws, dM, d_m_Write_init]) (fun q hq => by simp at hq) (fun r1 _ r3 => r1.append r3.reverse) fun D doc pm an cdv ct us mv ws h1 h2 h3 => by
    match us, mv, ws, h1, h2, h3 with
    | [_, _, _], [], [_, _], _, _, _ => rfl
  obtain ⟨_, b0⟩ := FunD.kbinds0 (ps := psW) F3 3 [] [("lead", V.str ""), ("tail", V.str "")] (fun us ms _ => us ++ ms) (by simp [He.DefD.kws, dM, d_m_Write_init]) (fun q hq => by simpa [He.DefD.kws, dM, d_m_Write_init, He.Dv.v] using hq) (fun r1 r2 _ => r1.append r2) fun D doc pm an cdv ct us mv ws h1 h2 h3 => by
    match us, mv, ws, h1, h2, h3 with
    | [_, _, _], [_, _], [], _, _, _ => exact ⟨_, _, _, _, _, _, rfl, rfl, _, _, _, _, _, _, rfl, rfl, rfl⟩
  exact ⟨fI, ok_wInit F3 E (D_is_text E) (D_is_one_of E), ⟨_, b1⟩, ⟨_, b2⟩, ⟨_, b0⟩⟩
theorem M_kind (E : Env P w K mg base) : FnR P w K mg base (L2.CX P w) 1 (gtr K (cW K) "kind") (spD K (sGet 2)) := mk_m_Write_kind E fun fd F => ok_kind F E
theorem M_text (E : Env P w K mg base) : FnR P w K mg base (L2.CX P w) 1 (gtr K (cW K) "text") (spD K (sGet 3)) := mk_m_Write_text E fun fd F => ok_text F E
theorem M_lead (E : Env P w K mg base) : FnR P w K mg base (L2.CX P w) 1 (gtr K (cW K) "lead") (spD K (sGet 0)) := mk_m_Write_lead E fun fd F => ok_lead F E
theorem M_tail (E : Env P w K mg base) : FnR P w K mg base (L2.CX P w) 1 (gtr K (cW K) "tail") (spD K (sGet 1)) := mk_m_Write_tail E fun fd F => ok_tail F E
theorem M_weq (E : Env P w K mg base) : FnR P w K mg base (L2.CX P w) 1 (He.ma K (cW K) "__eq__") (spD K sWEq) := mk_m_Write_eq E fun fd F => ok_weq F E
theorem M_wlen (E : Env P w K mg base) : FnR P w K mg base (L2.CX P w) 1 (He.ma K (cW K) "__len__") (spD K sWLen) := mk_m_Write_len E fun fd F => ok_wlen F E
end
/-- a good write, but for its length -/
structure GoodW (k t l e : Str) : Prop where
  gk : k ∈ kinds
  gl : l ∈ leads
  ge : e ∈ tails
  gr : k = "reply" → l = ""
  ga : k = "ask" → e = ""
  gn : k = "ask" ∨ k = "reply" → 0 < t.length
  gs : ∀ c ∈ t.cps.toList, c ∈ SIGNS.cps.toList
theorem strOk_of {t : Str} (h : ∀ c ∈ t.cps.toList, c ∈ SIGNS.cps.toList) : PyData.strOk t = true := by
  unfold PyData.strOk
  rw [← Array.all_toList]
  refine List.all_eq_true.mpr fun c hc => ?_
  have k : ∀ c ∈ SIGNS.cps.toList, (decide (c < 1114112)) = true := by decide +kernel
  exact k c (h c hc)
theorem len_of {xs : List Str} {n : Nat} (h : xs.all (fun x => decide (x.length ≤ n)) = true) {x : Str} (hx : x ∈ xs) : x.length ≤ n := of_decide_eq_true (List.all_eq_true.mp h x hx)
theorem sok_of {xs : List Str} (h : xs.all (fun x => PyData.strOk x) = true) {x : Str} (hx : x ∈ xs) : PyData.strOk x = true := List.all_eq_true.mp h x hx
section
variable {k t l e : Str}
theorem GoodW.none (g : GoodW k t l e) (h : t.length ≤ 40) : wFault (.str k) (.str t) (.str l) (.str e) = none := by
  have h1 : isOneD (.str k) kinds = true := decide_eq_true g.gk
  have h2 : isTextD (.str t) = true := by
    show (decide (t.length ≤ 40) && t.cps.toList.all fun c => decide (c ∈ SIGNS.cps.toList)) = true
    rw [decide_eq_true h, Bool.true_and]
    exact List.all_eq_true.mpr fun c hc => decide_eq_true (g.gs c hc)
  have h3 : isOneD (.str l) leads = true := decide_eq_true g.gl
  have h4 : isOneD (.str e) tails = true := decide_eq_true g.ge
  unfold wFault
  rw [h1, h2, h3, h4, if_neg (by simp), if_neg, if_neg, if_neg]
  · simp only [isOneT, Bool.not_true, Bool.false_or, Bool.and_eq_true, Bool.not_eq_true', decide_eq_false_iff_not, decide_eq_true_eq, not_and]
    exact fun h5 h6 => h5 (g.ga h6)
  · simp only [isOneT, Bool.not_true, Bool.false_or, Bool.and_eq_true, Bool.not_eq_true', decide_eq_false_iff_not, decide_eq_true_eq, not_and]
    exact fun h5 h6 => h5 (g.gr h6)
  · simp only [isOneT, isOneD, Bool.not_true, Bool.false_or, Bool.and_eq_true, decide_eq_true_eq, not_and]
    intro h5 h6
    have h7 := g.gn (by simpa using h6)
    rw [h5] at h7
    exact absurd h7 (by decide)
theorem GoodW.okk (g : GoodW k t l e) : okV (.str k) := ⟨⟨_, rfl⟩, fun s z => by cases z; exact len_of (by decide +kernel) g.gk⟩
theorem GoodW.okl (g : GoodW k t l e) : okV (.str l) := ⟨⟨_, rfl⟩, fun s z => by cases z; exact len_of (by decide +kernel) g.gl⟩
theorem GoodW.oke (g : GoodW k t l e) : okV (.str e) := ⟨⟨_, rfl⟩, fun s z => by cases z; exact len_of (by decide +kernel) g.ge⟩
theorem GoodW.okt (h : t.length ≤ 40) : okV (.str t) := ⟨⟨_, rfl⟩, fun s z => by cases z; omega⟩
theorem GoodW.bare (g : GoodW k t l e) : GoodW k t "" "" := ⟨g.gk, by decide +kernel, by decide +kernel, fun _ => rfl, fun _ => rfl, g.gn, g.gs⟩
theorem GoodW.okEq (g : GoodW k t l e) : okEq (.tup [.str k, .str t, .str l, .str e]) = true := by
  have e0 : PyData.canLay0 (pyD (.tup [.str k, .str t, .str l, .str e])) = (PyData.strOk k && (PyData.strOk t && (PyData.strOk l && (PyData.strOk e && true)))) := rfl
  have e1 : PyData.depth (pyD (.tup [.str k, .str t, .str l, .str e])) = 1 := rfl
  show (true && (PyData.canLay0 (pyD (.tup [.str k, .str t, .str l, .str e])) && decide (PyData.depth (pyD (.tup [.str k, .str t, .str l, .str e])) ≤ 64))) = true
  rw [e0, e1, sok_of (xs := kinds) (by decide +kernel) g.gk, strOk_of g.gs, sok_of (xs := leads) (by decide +kernel) g.gl, sok_of (xs := tails) (by decide +kernel) g.ge]
  rfl
theorem eqv_tup4 {k' t' l' e' : Str} : PyData.eqv (pyD (.tup [.str k, .str t, .str l, .str e])) (pyD (.tup [.str k', .str t', .str l', .str e'])) = wEq k t l e k' t' l' e' := by
  show ((k == k') && ((t == t') && ((l == l') && ((e == e') && true)))) = _
  unfold wEq
  simp only [Bool.and_true]
  rfl
end
section
variable {X : Cx} {I : Iv X.K} {a b c d e : Expr} {δ : DEnv} {pos p q1 q2 : Pos} {k t l e' : Str}
/-- Write(k, t, lead=l, tail=e) -/
theorem pv_write (E : Env X.prog X.w X.K X.mg X.base) (hr : Room 4 X.A) (ha : PV X I a δ (.str k)) (hb : PV X I b δ (.str t)) (hl : PV X I c δ (.str l)) (he : PV X I d δ (.str e')) (g : GoodW k t l e') (h : t.length ≤ 40) (hg : Gl X "Write" := by rfl)
    (hall : (backToKw pos (keywordEach [⟨some "lead", c, q1⟩, ⟨some "tail", d, q2⟩] X.env)).all (·.1.isSome) = true := by rfl) (hks : (backToKw pos (keywordEach [⟨some "lead", c, q1⟩, ⟨some "tail", d, q2⟩] X.env)).filterMap (·.1) = (["lead", "tail"] : List Str) := by rfl)
    (h1 : starEach [a, b] X.env = (false, eval a X.env) :: starEach [b] X.env := by rfl) (h2 : starEach [b] X.env = (false, eval b X.env) :: starEach [] X.env := by rfl)
    (hpl : ((backTo pos (starEach [a, b] X.env)).any (·.1) || (backToKw pos (keywordEach [⟨some "lead", c, q1⟩, ⟨some "tail", d, q2⟩] X.env)).any (·.1.isNone)) = false := by rfl) : PV X I (.Call (.Name "Write" p) [a, b] [⟨some "lead", c, q1⟩, ⟨some "tail", d, q2⟩] pos) δ (wD X.K k t l e') := fun W R P pp => by
  obtain ⟨fI, F, ⟨_, b1⟩, _, _⟩ := M_wInit E
  refine EvX.weak (ev_makeSl (fun ds zs => ds ++ zs) takesF E.m_Write F hr E.g_Write b1 (fun r1 r2 => r1.append r2) (ea_cons (ha.ev (ea_cons (hb.ev (ea_nil (ek_cons (hl.ev (ek_cons (he.ev (ek_nil ⟨rfl, rfl, fun y dy na => ?_⟩))))))) h2)) h1) hg (by decide) hall hks h1 hpl)
  refine ⟨y, dy, I, .str k, .str t, .str l, .str e', rfl, rfl, g.okk, GoodW.okt h, g.okl, g.oke, ?_⟩
  rw [g.none h]
  exact ⟨rfl, [.str l, .str e', .str k, .str t], rfl, pp⟩
/-- .. tail=e, lead=l -/
theorem pv_writeTL (E : Env X.prog X.w X.K X.mg X.base) (hr : Room 4 X.A) (ha : PV X I a δ (.str k)) (hb : PV X I b δ (.str t)) (he : PV X I c δ (.str e')) (hl : PV X I d δ (.str l)) (g : GoodW k t l e') (h : t.length ≤ 40) (hg : Gl X "Write" := by rfl)
    (hall : (backToKw pos (keywordEach [⟨some "tail", c, q1⟩, ⟨some "lead", d, q2⟩] X.env)).all (·.1.isSome) = true := by rfl) (hks : (backToKw pos (keywordEach [⟨some "tail", c, q1⟩, ⟨some "lead", d, q2⟩] X.env)).filterMap (·.1) = (["tail", "lead"] : List Str) := by rfl)
    (h1 : starEach [a, b] X.env = (false, eval a X.env) :: starEach [b] X.env := by rfl) (h2 : starEach [b] X.env = (false, eval b X.env) :: starEach [] X.env := by rfl)
    (hpl : ((backTo pos (starEach [a, b] X.env)).any (·.1) || (backToKw pos (keywordEach [⟨some "tail", c, q1⟩, ⟨some "lead", d, q2⟩] X.env)).any (·.1.isNone)) = false := by rfl) : PV X I (.Call (.Name "Write" p) [a, b] [⟨some "tail", c, q1⟩, ⟨some "lead", d, q2⟩] pos) δ (wD X.K k t l e') := fun W R P pp => by
  obtain ⟨fI, F, _, ⟨_, b1⟩, _⟩ := M_wInit E
  refine EvX.weak (ev_makeSl (fun ds zs => ds ++ zs.reverse) takesF E.m_Write F hr E.g_Write b1 (fun r1 r2 => r1.append (reps_rev r2)) (ea_cons (ha.ev (ea_cons (hb.ev (ea_nil (ek_cons (he.ev (ek_cons (hl.ev (ek_nil ⟨rfl, rfl, fun y dy na => ?_⟩))))))) h2)) h1) hg (by decide) hall hks h1 hpl)
  refine ⟨y, dy, I, .str k, .str t, .str l, .str e', rfl, rfl, g.okk, GoodW.okt h, g.okl, g.oke, ?_⟩
  rw [g.none h]
  exact ⟨rfl, [.str l, .str e', .str k, .str t], rfl, pp⟩
/-- Write(k, t) -/
theorem pv_write0 (E : Env X.prog X.w X.K X.mg X.base) (hr : Room 4 X.A) (ha : PV X I a δ (.str k)) (hb : PV X I b δ (.str t)) (g : GoodW k t l e') (h : t.length ≤ 40) (hg : Gl X "Write" := by rfl)
    (hall : (backToKw pos (keywordEach [] X.env)).all (·.1.isSome) = true := by rfl) (hks : (backToKw pos (keywordEach [] X.env)).filterMap (·.1) = ([] : List Str) := by rfl)
    (h1 : starEach [a, b] X.env = (false, eval a X.env) :: starEach [b] X.env := by rfl) (h2 : starEach [b] X.env = (false, eval b X.env) :: starEach [] X.env := by rfl)
    (hpl : ((backTo pos (starEach [a, b] X.env)).any (·.1) || (backToKw pos (keywordEach [] X.env)).any (·.1.isNone)) = false := by rfl) : PV X I (.Call (.Name "Write" p) [a, b] [] pos) δ (wD X.K k t "" "") := fun W R P pp => by
  obtain ⟨fI, F, _, _, ⟨_, b1⟩⟩ := M_wInit E
  refine EvX.weak (ev_makeSl (ks := []) (fun ds zs => ds ++ [.str "", .str ""]) takesF E.m_Write F hr E.g_Write b1 (fun r1 r2 => r1.append (ds := _) (es := [.str "", .str ""]) ⟨.str "", [.str ""], rfl, rfl, .str "", [], rfl, rfl, rfl⟩) (ea_cons (ha.ev (ea_cons (hb.ev (ea_nil (ek_nil ⟨rfl, rfl, fun y dy na => ?_⟩))) h2)) h1) hg (by decide) hall hks h1 hpl)
  refine ⟨y, dy, I, .str k, .str t, .str "", .str "", rfl, rfl, g.okk, GoodW.okt h, g.bare.okl, g.bare.oke, ?_⟩
  rw [g.bare.none h]
  exact ⟨rfl, [.str "", .str "", .str k, .str t], rfl, pp⟩
/-- its parts -/
theorem pv_wkind (E : Env X.prog X.w X.K X.mg X.base) (hr : Room 2 X.A) (ha : PV X I a δ (wD X.K k t l e')) (hb : attributeBase a "kind" X.env (eval a X.env) = eval a X.env := by rfl) : PV X I (.Attribute a "kind" pos) δ (.str k) := pv_prop E.k_Write.sc E.p_Write_kind (M_kind E) hr ha (fun P p => ⟨_, _, rfl, rfl, p⟩) hb
theorem pv_wtext (E : Env X.prog X.w X.K X.mg X.base) (hr : Room 2 X.A) (ha : PV X I a δ (wD X.K k t l e')) (hb : attributeBase a "text" X.env (eval a X.env) = eval a X.env := by rfl) : PV X I (.Attribute a "text" pos) δ (.str t) := pv_prop E.k_Write.sc E.p_Write_text (M_text E) hr ha (fun P p => ⟨_, _, rfl, rfl, p⟩) hb
theorem pv_wlead (E : Env X.prog X.w X.K X.mg X.base) (hr : Room 2 X.A) (ha : PV X I a δ (wD X.K k t l e')) (hb : attributeBase a "lead" X.env (eval a X.env) = eval a X.env := by rfl) : PV X I (.Attribute a "lead" pos) δ (.str l) := pv_prop E.k_Write.sc E.p_Write_lead (M_lead E) hr ha (fun P p => ⟨_, _, rfl, rfl, p⟩) hb
theorem pv_wtail (E : Env X.prog X.w X.K X.mg X.base) (hr : Room 2 X.A) (ha : PV X I a δ (wD X.K k t l e')) (hb : attributeBase a "tail" X.env (eval a X.env) = eval a X.env := by rfl) : PV X I (.Attribute a "tail" pos) δ (.str e') := pv_prop E.k_Write.sc E.p_Write_tail (M_tail E) hr ha (fun P p => ⟨_, _, rfl, rfl, p⟩) hb
/-- len(w) -/
theorem pv_wlen (E : Env X.prog X.w X.K X.mg X.base) (hr : Room 2 X.A) (ha : PV X I a δ (wD X.K k t l e')) (h : t.length ≤ 100000) (hg : Gl X "len" := by rfl) (h1 : starEach [a] X.env = (false, eval a X.env) :: starEach [] X.env := by rfl) (hpl : (backTo pos (starEach [] X.env)).any (·.1) = false := by rfl) : PV X I (.Call (.Name "len" p) [a] [] pos) δ (.int t.length) :=
  pv_cb (call_lenOwn E.h_Write_len.f E.h_Write_len.i (M_wlen E) hr takesPF) E.b_len (va_cons ha va_nil h1) (pn_lenOwn (by omega) fun P p => ⟨k, t, l, e', rfl, h, p⟩) (hg := hg) (he := h1) (hpl := hpl)
end
end LK
set_option Elab.async false
set_option linter.all false
set_option maxRecDepth 100000
set_option maxHeartbeats 1000000
namespace LK
open PySem PySem.Spec PyProof.Rows L2 DL
abbrev cC (K : PySem.W.Frag) : Addr := He.ga K "Cast"
/-! ### writes, things, works -/
structure Wr where
  k : Str
  t : Str
  l : Str
  e : Str
deriving DecidableEq
def wr4 (w : Wr) : D := .tup [.str w.k, .str w.t, .str w.l, .str w.e]
abbrev wrD (K : PySem.W.Frag) (w : Wr) : D := wD K w.k w.t w.l w.e
structure GoodR (w : Wr) : Prop where
  g : GoodW w.k w.t w.l w.e
  h : w.t.length ≤ 40
/-- a thing among the writes -/
inductive Th where
  | wr (w : Wr)
  | ot (d : D)
def Th.d (K : PySem.W.Frag) : Th → D
  | .wr w => wrD K w
  | .ot d => d
def Th.ok : Th → Prop
  | .wr w => w.k ∈ kinds
  | .ot d => ∃ t, tyD d = some t
def Th.kind : Th → Str
  | .wr w => w.k
  | .ot _ => ""
/-- what stands for a work -/
inductive Wv where
  | ls (ths : List Th)
  | tp (ths : List Th)
  | ot (d : D)
def Wv.d (K : PySem.W.Frag) : Wv → D
  | .ls ths => .lst (ths.map (Th.d K))
  | .tp ths => .tup (ths.map (Th.d K))
  | .ot d => d
def Wv.ths : Wv → List Th
  | .ls ths => ths
  | .tp ths => ths
  | .ot _ => []
def Wv.ok : Wv → Prop
  | .ls ths => (∀ x ∈ ths, x.ok) ∧ ths.length ≤ 1000
  | .tp ths => (∀ x ∈ ths, x.ok) ∧ ths.length ≤ 1000
  | .ot d => ∃ t, tyD d = some t ∧ t ≠ "list" ∧ t ≠ "tuple"
def kindBad (ks : List Str) (k : Str) (i : Nat) : Bool :=
  decide (k = "") || (decide (k = "ask") && !decide ((ks.drop (i + 1)).take 1 = (["reply"] : List Str))) || (decide (k = "reply") && !decide ((ks.take i).drop ((ks.take i).length - 1) = (["ask"] : List Str)))
def kindFault (ks : List Str) : Option Nat := ks.zipIdx.findSome? fun p => if kindBad ks p.1 p.2 = true then some p.2 else none
def lookThs (ths : List Th) : Option (Option Nat) := if 1 ≤ ths.length ∧ ths.length ≤ 8 then (kindFault (ths.map Th.kind)).map some else some none
def lookFault : Wv → Option (Option Nat)
  | .ls ths => lookThs ths
  | .tp ths => lookThs ths
  | .ot _ => some none
def nD : Option Nat → D
  | none => .non
  | some i => .int i
def isNameS (s : Str) : Bool := decide (1 ≤ s.length) && decide (s.length ≤ 8) && s.cps.toList.all fun c => decide (c ∈ (Str.ofString "abcdefghijklmnopqrstuvwxyz").cps.toList)
def sIsName {K : PySem.W.Frag} : Spec K := fun I ds P _ => ∃ s : Str, ds = [.str s] ∧ s.length ≤ 100000 ∧ P (.bl (isNameS s)) I
def xCast (K : PySem.W.Frag) (n : Str) (o : Option Nat) : List (Str × D) := [("number", nD o), ("name", .str n)]
def sLook {K : PySem.W.Frag} : Spec K := fun I ds P R => ∃ (n : Str) (v : Wv), ds = [.str n, v.d K] ∧ v.ok ∧ match lookFault v with
  | none => P .non I
  | some o => R (He.ga K "InvalidCast") (xCast K n o) I
theorem okW_kind : (["say", "ask", "reply", "show", ""] : List Str).all (fun x => PyData.strOk x) = true := by decide +kernel
theorem kind_mem {x : Th} (h : x.ok) : x.kind ∈ (["say", "ask", "reply", "show", ""] : List Str) := by
  cases x with
  | wr w =>
    have h : w.k ∈ kinds := h
    simp only [List.mem_cons, List.not_mem_nil, or_false] at h ⊢
    show w.k = _ ∨ _
    rcases h with h | h | h | h <;> simp [Th.kind, h]
  | ot d => simp [Th.kind]
theorem okS_map {ws : List Str} (h : ∀ x ∈ ws, PyData.strOk x = true) : okEq (.lst (ws.map D.str)) = true := (OkD.lst (n := 0) (OkD.map fun x hx => .str (h x hx))).okEq (by decide)
theorem kind_at {ks : List Str} {p r : List (Str × Nat)} {x : Str × Nat} (e : ks.zipIdx = p ++ x :: r) (hp : ∀ y ∈ p, kindBad ks y.1 y.2 = false) (hx : kindBad ks x.1 x.2 = true) : kindFault ks = some x.2 := by
  unfold kindFault
  rw [e]
  exact findSome_hit (fun y hy => by rw [hp y hy]; rfl) (by rw [if_pos hx])
theorem kind_none {ks : List Str} (hp : ∀ y ∈ ks.zipIdx, kindBad ks y.1 y.2 = false) : kindFault ks = none := by
  unfold kindFault
  rw [List.findSome?_eq_none_iff]
  intro y hy
  rw [hp y hy]; rfl
theorem vi_wv {X : Cx} {I : Iv X.K} {tg iter : Expr} {δ : DEnv} {v : Wv} (hn : ∀ d, v ≠ .ot d) (hp : PV X I iter δ (v.d X.K)) : PVI X I tg iter δ (v.ths.map (Th.d X.K)) := by
  cases v with
  | ls ths' => exact vi_lst hp
  | tp ths' => exact vi_tup hp
  | ot d => exact absurd rfl (hn d)
section
variable {P : Program} {w : World} {K : PySem.W.Frag} {mg : Str → Option Value} {base : Heap}
theorem D_is_name (E : Env P w K mg base) : Def P w K mg base "is_name" 1 ["value"] [] sIsName := mk_f_is_name E fun fd F => by
  refine fn_d F sc_f_is_name (fun I ds P R h => by obtain ⟨d, rfl, _⟩ := h; rfl) fun cdv A outer s H EE hr tk po I ds Q R h => ?_
  obtain ⟨z, rfl, hz, q⟩ := h
  have nd := sc_f_is_name.nd
  refine s_cons (s_ifP (ptw (ww_orF (ptn (k := true) (pt_v (pv_cb call_isi E.b_isinstance (va_cons (pv_v 0) (va_cons (pv_gty (n := "str") E.b_str) va_nil)) (pn_isiT (t := "str") rfl)))) (ww_or1 (ptn (pt_chn op_le op_le pv_int (pv_len E.b_len (pv_w 0 rfl) hz) p2_le (pv_gint E.c_MOST_NAME) p2_le))))) (fun e => ?_) fun e => s_nil ?_)
  · refine s_one (s_retP pv_bl ?_)
    have e2 : isNameS z = false := by
      unfold isNameS
      simp only [Bool.not_eq_true', Bool.and_eq_false_iff, decide_eq_false_iff_not] at e ⊢
      omega
    rw [← e2]; exact q
  · have el : D.lst ((z.cps.toList.map fun c => decide (c ∈ (Str.ofString "abcdefghijklmnopqrstuvwxyz").cps.toList)).map D.bl) = .lst (z.cps.toList.map fun c => .bl (decide (c ∈ (Str.ofString "abcdefghijklmnopqrstuvwxyz").cps.toList))) := by rw [List.map_map]; rfl
    refine s_one (s_retP (pv_cb (cr_all rfl) E.b_all (va_cons (((pv_lcTM (xs := z.cps.toList) (g := fun c => D.str ⟨#[c]⟩) (fun c => .bl (decide (c ∈ (Str.ofString "abcdefghijklmnopqrstuvwxyz").cps.toList))) [("sign", 1)] (fun c => [some (.str z), some (.str ⟨#[c]⟩)]) (vi_str (pv_v 0)) (by rw [Array.length_toList]; exact Nat.le_trans hz (by decide)) (fun d s H C cl fp => bind_name 1) fun c hc J s H C cl fp => pv_cmp op_signIn (pv_v 1) (pv_gstr E.c_LETTERS) p2_signIn)).is el.symm) va_nil) pn_all) ?_)
    have e2 : isNameS z = (z.cps.toList.map fun c => decide (c ∈ (Str.ofString "abcdefghijklmnopqrstuvwxyz").cps.toList)).all id := by
      unfold isNameS
      simp only [Bool.not_eq_false', Bool.and_eq_true, decide_eq_true_eq] at e
      rw [decide_eq_true (show 1 ≤ z.length by omega), decide_eq_true (show z.length ≤ 8 by omega), List.all_map]
      rfl
    rw [← e2]; exact q
/-- look_at_writes -/
theorem D_look (E : Env P w K mg base) : Def P w K mg base "look_at_writes" 3 ["name", "writes"] [] sLook := mk_f_look_at_writes E fun fd F => by
  refine fn_d F sc_f_look_at_writes (fun I ds P R h => by obtain ⟨n, v, rfl, _⟩ := h; rfl) fun cdv A outer s H EE hr tk po I ds Q R h => ?_
  obtain ⟨n, v, rfl, hv, q⟩ := h
  have nd := sc_f_look_at_writes.nd
  have hu := hr.units
  have hr2 : Room 2 _ := hr
  -- no list, no tuple
  have hty : ∃ t, tyD (v.d K) = some t ∧ ((∃ d, v = .ot d ∧ kitB t "list" = some false ∧ kitB t "tuple" = some false) ∨ ((∀ d, v ≠ .ot d) ∧ ∃ b1 b2, kitB t "list" = some b1 ∧ kitB t "tuple" = some b2 ∧ (b1 || b2) = true)) := by
    cases v with
    | ls ths => exact ⟨_, rfl, .inr ⟨(fun d e => nomatch e), true, false, by decide +kernel, by decide +kernel, rfl⟩⟩
    | tp ths => exact ⟨_, rfl, .inr ⟨(fun d e => nomatch e), false, true, by decide +kernel, by decide +kernel, rfl⟩⟩
    | ot d =>
      obtain ⟨t, ht, h1, h2⟩ := hv
      refine ⟨t, ht, .inl ⟨d, rfl, ?_⟩⟩
      have := tyD_in ht
      have k : ∀ u : String, tyNs.contains u = true → u ≠ "list" → u ≠ "tuple" → kitB u "list" = some false ∧ kitB u "tuple" = some false := by
        intro u hu a b
        have hu := List.contains_iff_mem.mp hu
        simp only [List.mem_cons, List.not_mem_nil, or_false] at hu
        rcases hu with rfl | rfl | rfl | rfl | rfl | rfl | rfl
        · exact ⟨by decide +kernel, by decide +kernel⟩
        · exact ⟨by decide +kernel, by decide +kernel⟩
        · exact ⟨by decide +kernel, by decide +kernel⟩
        · exact ⟨by decide +kernel, by decide +kernel⟩
        · exact absurd rfl b
        · exact absurd rfl a
        · exact ⟨by decide +kernel, by decide +kernel⟩
      exact k t this h1 h2
  obtain ⟨t, ht, hc⟩ := hty
  rcases hc with ⟨d, rfl, k1, k2⟩ | ⟨hn, b1, b2, k1, k2, kb⟩
  · refine s_cons (s_ifT (ptw (ww_orT (ptn (k := false) (pt_v (pv_cb call_isiTT E.b_isinstance (va_cons (pv_v 1) (va_cons (pv_tup (va_cons (pv_gty (n := "list") E.b_list) (va_cons (pv_gty (n := "tuple") E.b_tuple) va_nil))) va_nil)) (pn_isiT2 ht (kit2 k1 k2))))))) ?_)
    exact s_one (s_rz (hr := hr2) tk E.x_InvalidCast E.ini_InvalidCast (ea_cons ((pv_v 0).ev (ea_cons (pv_non.ev (ea_nil ⟨rfl, by simp, q⟩))))))
  obtain ⟨ths, hths, hl0, hok, hL, hF⟩ : ∃ ths : List Th, v.ths = ths ∧ itemsD (v.d K) = some (ths.map (Th.d K)) ∧ (∀ x ∈ ths, x.ok) ∧ ths.length ≤ 1000 ∧ lookFault v = lookThs ths := by
    cases v with
    | ls ths => exact ⟨ths, rfl, rfl, hv.1, hv.2, rfl⟩
    | tp ths => exact ⟨ths, rfl, rfl, hv.1, hv.2, rfl⟩
    | ot d => exact absurd rfl (hn d)
  have hlen : ∃ C, LenC (v.d K) ths.length C ∧ C := by
    cases v with
    | ls ths' => subst hths; exact ⟨True, by have := (inferInstance : LenC (.lst (ths'.map (Th.d K))) _ _); rwa [List.length_map] at this, trivial⟩
    | tp ths' => subst hths; exact ⟨True, by have := (inferInstance : LenC (.tup (ths'.map (Th.d K))) _ _); rwa [List.length_map] at this, trivial⟩
    | ot d => exact absurd rfl (hn d)
  obtain ⟨CC, LC, cc⟩ := hlen
  refine s_cons (s_ifP (ptw (ww_orF (ptn (k := true) (pt_v (pv_cb call_isiTT E.b_isinstance (va_cons (pv_v 1) (va_cons (pv_tup (va_cons (pv_gty (n := "list") E.b_list) (va_cons (pv_gty (n := "tuple") E.b_tuple) va_nil))) va_nil)) (pn_isiT2 ht (by rw [← kb]; exact kit2 k1 k2))))) (ww_or1 (ptn (pt_chn op_le op_le pv_int (pv_len E.b_len (pv_w 1 rfl) cc) p2_le (pv_gint E.c_MOST_WRITES) p2_le))))) (fun e => ?_) fun e => s_nil ?_)
  · have e2 : lookFault v = some none := by
      rw [hF]
      unfold lookThs
      rw [if_neg]
      simp only [Bool.not_eq_true', Bool.and_eq_false_iff, decide_eq_false_iff_not] at e
      omega
    rw [e2] at q
    exact s_one (s_rz (hr := hr2) tk E.x_InvalidCast E.ini_InvalidCast (ea_cons ((pv_v 0).ev (ea_cons (pv_non.ev (ea_nil ⟨rfl, by simp, q⟩))))))
  have hsz : 1 ≤ ths.length ∧ ths.length ≤ 8 := by
    simp only [Bool.not_eq_false', Bool.and_eq_true, decide_eq_true_eq] at e
    omega
  have hF2 : lookFault v = (kindFault (ths.map Th.kind)).map some := by rw [hF]; unfold lookThs; rw [if_pos hsz]
  clear hF
  -- the kinds
  have ekk : D.lst (ths.map fun x => D.str x.kind) = .lst ((ths.map Th.kind).map D.str) := by rw [List.map_map]; rfl
  refine s_cons (s_setLc 2 [("write", 6)] (lcM (xs := ths) (g := Th.d K) (fun x => .str x.kind) [("write", 6)] (fun x => [some (.str n), some (v.d K), none, none, none, none, some (x.d K)]) (by rw [← hths]; exact vi_wv hn (pv_v 1)) (by omega) (fun d s H C cl fp => bind_name 6) (fun x hx J s H C cl fp => ?_) ?_))
  · cases x with
    | wr w0 => exact pv_if (k := true) (pt_v (pv_cb (SlX.call_isiSl (.ref (cW K))) E.b_isinstance (va_cons (pv_v (d := wrD K w0) 6) (va_cons (pv_gref E.g_Write) va_nil)) (pn_isiSl E.k_Write.sc E.k_Write.si E.k_Write.kW))) (fun _ => pv_wkind E (hr.mono (by decide)) (pv_v (d := wrD K w0) 6)) (fun z => nomatch z)
    | ot d =>
      obtain ⟨ty, hty⟩ := hok _ hx
      exact pv_if (k := false) (pt_v (pv_cb call_isi E.b_isinstance (va_cons (pv_v (d := d) 6) (va_cons (pv_gref E.g_Write) va_nil)) (pn_isiO hty (E.k_Write.kT _ (tyD_in hty))))) (fun z => nomatch z) (fun _ => pv_str)
  rw [ekk]
  -- each
  have hks : ∀ x ∈ ths.map Th.kind, PyData.strOk x = true := fun x hx => by
    obtain ⟨y, hy, rfl⟩ := List.mem_map.mp hx
    exact List.all_eq_true.mp okW_kind _ (kind_mem (hok y hy))
  have hkl : (ths.map Th.kind).length ≤ 8 := by rw [List.length_map]; exact hsz.2
  clear ekk hok
  generalize ths.map Th.kind = ks at *
  refine s_one (s_forT (xs := ks.zipIdx) (g := fun p => .tup [.int p.2, .str p.1]) po (by rw [← enumD_map]; exact vi_enumL E.b_enumerate (pv_v 2)) (fun p δ' I' => I' = I ∧ (∀ y ∈ p, kindBad ks y.1 y.2 = false) ∧ DLe δ' [some (.str n), some (v.d K), some (.lst (ks.map D.str)), none, none, none, none]) ⟨rfl, (fun y hy => nomatch hy), .of rfl rfl⟩ ?_ ?_)
  · rintro p ⟨k, i⟩ r δ' I' e ⟨rfl, hp, hle⟩
    refine ⟨_, [3, 4], (bind_tup (bs_cons (bind_name 3) (bs_cons (bind_name 4) bs_nil))).le hle, ?_⟩
    have e1 : (↑i + 1 : Int) = ((i + 1 : Nat) : Int) := rfl
    have e2 : (↑i + 2 : Int) = ((i + 2 : Nat) : Int) := rfl
    have a1 : eqD (.lst (cutD (ks.map D.str) (some (↑i + 1)) (some (↑i + 2)))) (.lst [.str "reply"]) = decide ((ks.drop (i + 1)).take 1 = (["reply"] : List Str)) := by
      rw [e1, e2, cut_mid, show i + 2 - (i + 1) = 1 by omega, ← List.map_drop, ← List.map_take, eqD_lst]
      exact Bool.eq_iff_iff.mpr ((Inj.str.eqs _ ["reply"]).trans (by simp))
    have a2 : eqD (.lst (cutD (cutD (ks.map D.str) none (some (i : Int))) (some (-1)) none)) (.lst [.str "ask"]) = decide ((ks.take i).drop ((ks.take i).length - 1) = (["ask"] : List Str)) := by
      rw [cut_take, cut_last, ← List.map_take, List.length_map, ← List.map_drop, eqD_lst]
      exact Bool.eq_iff_iff.mpr ((Inj.str.eqs _ ["ask"]).trans (by simp))
    have o1 : okEq (.lst (cutD (ks.map D.str) (some (↑i + 1)) (some (↑i + 2)))) = true := by
      rw [e1, e2, cut_mid, ← List.map_drop, ← List.map_take]
      exact okS_map fun x hx => hks x (List.mem_of_mem_drop (List.mem_of_mem_take hx))
    have o2 : okEq (.lst (cutD (cutD (ks.map D.str) none (some (i : Int))) (some (-1)) none)) = true := by
      rw [cut_take, cut_last, ← List.map_take, ← List.map_drop]
      exact okS_map fun x hx => hks x (List.mem_of_mem_take (List.mem_of_mem_drop hx))
    refine s_cons (s_setP 5 (pv_andB (pv_eq hu (pv_w 4 rfl) (pv_gstr E.c_ASK) trivial) fun _ => pv_one (pv_ne hu (pv_slL (pv_w 2 rfl) (vo_some (pv_op op_add (pv_w 3 rfl) pv_int p2_add)) (vo_some (pv_op op_add (pv_w 3 rfl) pv_int p2_add))) (pv_lst (va_cons (pv_gstr E.c_REPLY) va_nil)) ⟨o1, by decide +kernel⟩)) ?_)
    refine s_one (s_ifP (ptw (ww_or (pt_eq hu (pv_w 4 rfl) pv_str trivial) fun _ => ww_or (pt_v (pv_w 5 rfl)) fun _ => ww_or1 (ptw (ww_and (pt_eq hu (pv_w 4 rfl) (pv_gstr E.c_REPLY) trivial) fun _ => ww_and1 (pt_ne hu (pv_slL (pv_slL (pv_w 2 rfl) vo_none (vo_some (pv_w 3 rfl))) (vo_some (pv_neg pv_int)) vo_none) (pv_lst (va_cons (pv_gstr E.c_ASK) va_nil)) ⟨o2, by decide +kernel⟩))))) (fun e3 => ?_) fun e3 => s_nil ?_)
    · rw [a1, a2, ← Bool.or_assoc] at e3
      refine s_one (s_rz (hr := hr2) tk E.x_InvalidCast E.ini_InvalidCast (ea_cons ((pv_v 0).ev (ea_cons ((pv_v 3).ev (ea_nil ⟨rfl, by simp, ?_⟩))))))
      rw [hF2, kind_at e hp e3] at q
      exact q
    · rw [a1, a2, ← Bool.or_assoc] at e3
      refine ⟨rfl, fun y hy => ?_, .of rfl rfl⟩
      rcases List.mem_append.mp hy with h | h
      · exact hp y h
      · rw [List.mem_singleton.mp h]; exact e3
  · rintro δ' I' ⟨rfl, hp, hle⟩
    rw [hF2, kind_none hp] at q
    exact q
end
end LK
set_option Elab.async false
set_option linter.all false
set_option maxRecDepth 100000
set_option maxHeartbeats 1000000
namespace LK
open PySem PySem.Spec PyProof.Rows L2 DL
def nameFault (p : Str × Wv) : Option (Str × Option Nat) := if isNameS p.1 = true then (lookFault p.2).map fun o => (p.1, o) else some (p.1, none)
def castFault (ws : List (Str × Wv)) : Option (Str × Option Nat) := if 1 ≤ ws.length ∧ ws.length ≤ 6 then (sortW ws).findSome? nameFault else some ("", none)
abbrev wksD (K : PySem.W.Frag) (ws : List (Str × Wv)) : D := dicT ws (·.1) (fun p => p.2.d K)
abbrev ctbD (K : PySem.W.Frag) (ws : List (Str × Wv)) : D := dicT (sortW ws) (·.1) (fun p => .tup (p.2.ths.map (Th.d K)))
structure WksOk (ws : List (Str × Wv)) : Prop where
  nd : (ws.map (·.1)).Nodup
  ok : ∀ p ∈ ws, p.2.ok
  ln : ∀ p ∈ ws, p.1.length ≤ 100000
  sz : ws.length ≤ 50
def sCInit {K : PySem.W.Frag} : Spec K := fun I ds P R => ∃ (x dx : Addr) (J : Iv K) (ws : List (Str × Wv)), ds = [.adr x, wksD K ws] ∧ I = J.and (iSl K x (cC K) dx []) ∧ WksOk ws ∧ match castFault ws with
  | none => P .non (J.and (iSl K x (cC K) dx [some (ctbD K ws)]))
  | some no => R (He.ga K "InvalidCast") (xCast K no.1 no.2) I
theorem names_D (ws : List (Str × Wv)) : (sortS (ws.map (·.1))).map D.str = (sortW ws).map fun p => D.str p.1 := by
  rw [← sortW_names, List.map_map]; rfl
theorem kb0 {K : PySem.W.Frag} {x qual : Str} {params : Arguments} {body : List Stmt} {scope : Scope} {kws : List (Str × V)} {f : Addr} {fd : FuncData} {ps : List Str} (F : FunD K x qual params body scope [] kws f fd) (n : Nat) (hn : ps.length = n)
    (h : ∀ (kV doc pm : Value) (an : Option Addr) (cdv ct : Value) (us : List Value), us.length = ps.length → bindArgs (PySem.W.fnOf x qual params body scope .none kV doc pm an cdv ct) ⟨us, []⟩ = pure (ps.zip us)) : KBn K fd ps n [] (fun us _ => us) (fun vs _ => vs) :=
  ⟨fun s us ws _ l1 l2 => F.bindsA h s us (by rw [l1, hn]), fun r1 _ => r1⟩
section
variable {P : Program} {w : World} {K : PySem.W.Frag} {mg : Str → Option Value} {base : Heap}
theorem M_cInit (E : Env P w K mg base) : ∃ fd, FnOk P w K mg base (L2.CX P w) 4 (He.ma K (cC K) "__init__") fd ["self", "works"] (spD K sCInit) ∧ ∃ g, KBn K fd ["self", "works"] 2 [] g fun vs _ => vs := by
  obtain ⟨fd, F⟩ := E.has _ in_m_Cast_init
  have F : FunD K "__init__" "Cast.__init__" (defArgs m_Cast_init) (defBody m_Cast_init) (defScope m_Cast_init) [] [] (He.ma K (cC K) "__init__") fd := F
  have b0 := kb0 (ps := ["self", "works"]) F 2 rfl fun _ _ _ _ _ _ us hl => match us, hl with | [_, _], _ => rfl
  refine ⟨fd, ?_, _, b0⟩
  refine fn_d F sc_m_Cast_init (fun I ds P R h => by obtain ⟨x, dx, J, ws, rfl, _⟩ := h; rfl) fun cdv A outer s H EE hr tk po I ds Q R h => ?_
  obtain ⟨x, dx, J, ws, rfl, rfl, o, q⟩ := h
  have nd := sc_m_Cast_init.nd
  have hu := hr.units
  have hu1 := hr.u1
  have hr1 : Room 1 _ := hr.mono (by decide)
  have hr2 : Room 2 _ := hr.mono (by decide)
  have hl : (ws.map fun x => ((.inr x.1 : Key), x.2.d K)).length = ws.length := by simp
  refine s_cons (s_ifP (ptn (pt_chn op_le op_le pv_int (pv_len E.b_len (pv_w (d := wksD K ws) 1 rfl) trivial) p2_le (pv_gint E.c_MOST_WORKS) p2_le)) (fun e => ?_) fun e => s_nil ?_)
  · have e2 : castFault ws = some (("" : Str), none) := by
      unfold castFault
      rw [if_neg]
      rw [hl] at e
      simp only [Bool.not_eq_true', Bool.and_eq_false_iff, decide_eq_false_iff_not] at e
      omega
    rw [e2] at q
    exact s_one (s_rz (hr := hr2) tk E.x_InvalidCast E.ini_InvalidCast (ea_cons (pv_str.ev (ea_cons (pv_non.ev (ea_nil ⟨rfl, by simp, q⟩))))))
  have hsz : 1 ≤ ws.length ∧ ws.length ≤ 6 := by
    rw [hl] at e
    simp only [Bool.not_eq_false', Bool.and_eq_true, decide_eq_true_eq] at e
    omega
  have hF : castFault ws = (sortW ws).findSome? nameFault := by unfold castFault; rw [if_pos hsz]
  rw [hF] at q
  have hsub : ∀ p ∈ sortW ws, p ∈ ws := fun p hp => (sortW_perm ws).mem_iff.mp hp
  have hsl : (sortW ws).length ≤ 6 := by rw [(sortW_perm ws).length_eq]; exact hsz.2
  have hnd2 := sortW_nd o.nd
  have hgo : ∀ p ∈ sortW ws, getG (ws.map fun x => ((.inr x.1 : Key), x.2.d K)) (.inr p.1) = some (p.2.d K) := fun p hp => get_dicT (k := fun x : Str × Wv => x.1) (v := fun x => x.2.d K) o.nd (hsub p hp)
  have hnm := names_D ws
  unfold ctbD at q
  generalize hSW : sortW ws = sw at *
  refine s_cons (s_forT (xs := sw) (g := fun p => D.str p.1) po (by rw [← hnm]; exact vi_lst (pv_sortedS E.b_sorted (pv_listD E.b_list (pv_v 1)) (by rw [List.length_map]; omega))) (fun p δ' I' => I' = J.and (iSl K x (cC K) dx []) ∧ (∀ y ∈ p, nameFault y = none) ∧ DLe δ' [some (.adr x), some (wksD K ws), none]) ⟨rfl, (fun y hy => nomatch hy), .of rfl rfl⟩ ?_ ?_)
  · rintro p ⟨n, v⟩ r δ' I' e2 ⟨rfl, hp, hle⟩
    have hm : (n, v) ∈ sw := by rw [e2]; simp
    have hw := hsub _ hm
    refine ⟨_, [2], (bind_name 2).le hle, ?_⟩
    refine s_cons (s_ifP (ptn (pt_v (pv_def (D_is_name E) hr1 (va_cons (pv_v 2) va_nil) fun P pp => ⟨n, rfl, o.ln _ hw, pp⟩))) (fun e3 => ?_) fun e3 => s_nil ?_)
    · refine s_one (s_rz (hr := hr2) tk E.x_InvalidCast E.ini_InvalidCast (ea_cons ((pv_v 2).ev (ea_cons (pv_non.ev (ea_nil ⟨rfl, by simp, ?_⟩))))))
      have e4 : nameFault (n, v) = some (n, none) := by
        unfold nameFault
        rw [if_neg (by simpa using e3)]
      rw [e2, findSome_hit hp e4] at q
      exact q
    · have e3' : isNameS n = true := by simpa using e3
      refine s_one (s_expr (ev_def tk (D_look E) hr (ea_cons ((pv_v 2).ev (ea_cons ((pv_dget hu1 (.inl rfl) (pv_v 1) (pv_v 2) rfl (hgo _ hm)).ev (ea_nil ⟨n, v, rfl, o.ok _ hw, ?_⟩)))))))
      have e4 : nameFault (n, v) = (lookFault v).map fun o => (n, o) := by
        unfold nameFault
        rw [if_pos e3']
      cases hh : lookFault v with
      | none =>
        refine ⟨rfl, fun y hy => ?_, .of rfl rfl⟩
        rcases List.mem_append.mp hy with h | h
        · exact hp y h
        · rw [List.mem_singleton.mp h, e4, hh]; rfl
      | some oo =>
        rw [hh] at e4
        rw [e2, findSome_hit hp e4] at q
        exact q
  · rintro δ' I' ⟨rfl, hp, hle⟩
    refine SX.le hle ?_
    have e5 : sw.findSome? nameFault = none := List.findSome?_eq_none_iff.mpr hp
    rw [e5] at q
    have hths : ∀ p ∈ sw, p.2.d K = .lst (p.2.ths.map (Th.d K)) ∨ p.2.d K = .lsf (p.2.ths.map (Th.d K)) ∨ p.2.d K = .tup (p.2.ths.map (Th.d K)) := fun p hpm => by
      have hf := hp p hpm
      unfold nameFault at hf
      split at hf
      · cases hv : p.2 with
        | ls ths => exact .inl rfl
        | tp ths => exact .inr (.inr rfl)
        | ot d => rw [hv] at hf; cases hf
      · cases hf
    refine s_one (s_slot (.r J .here) E.k_Cast.sc E.s_Cast_table (pv_v 0) (pv_dcT (xs := sw) (g := fun p => D.str p.1) (fun p => .inr p.1) (fun p => .tup (p.2.ths.map (Th.d K))) [("name", 2)] (fun p => [some (.adr x), some (wksD K ws), some (.str p.1)]) (by rw [← hnm]; exact vi_lst (pv_sortedS E.b_sorted (pv_listD E.b_list (pv_v 1)) (by rw [List.length_map]; omega))) (by omega) (fun p s H C cl fp => bind_name 2) (fun p hp J s H C cl fp => pv_v 2) (fun p hp J s H C cl fp => pv_tuple E.b_tuple (pv_dget hu1 (.inl rfl) (pv_v 1) (pv_v 2) rfl (hgo _ hp)) (hths p hp)) ?_) ?_)
    · exact nodup_key hnd2
    · exact q
end
end LK
set_option Elab.async false
set_option linter.all false
set_option maxRecDepth 100000
set_option maxHeartbeats 1000000
namespace LK
open PySem PySem.Spec PyProof.Rows L2 DL
/-! ### good tables -/
abbrev Tb := List (Str × List Wr)
structure RowOk (ws : List Wr) : Prop where
  g : ∀ w ∈ ws, GoodR w
  n : 1 ≤ ws.length
  m : ws.length ≤ 8
  k : kindFault (ws.map (·.k)) = none
structure TbOk (t : Tb) : Prop where
  nd : (t.map (·.1)).Nodup
  nm : ∀ p ∈ t, isNameS p.1 = true
  row : ∀ p ∈ t, RowOk p.2
  n : 1 ≤ t.length
  m : t.length ≤ 6
def rowD (K : PySem.W.Frag) (ws : List Wr) : D := .tup (ws.map (wrD K))
abbrev tbD (K : PySem.W.Frag) (t : Tb) : D := dicT t (·.1) (fun p => rowD K p.2)
/-- the cast of a table in its order -/
def cD (K : PySem.W.Frag) (t : Tb) : D := .slo (cC K) [tbD K t]
/-- a table as it is passed: lists, tuples -/
def lsW (ws : List Wr) : Wv := .ls (ws.map .wr)
def tpW (ws : List Wr) : Wv := .tp (ws.map .wr)
theorem ths_map (K : PySem.W.Frag) (ws : List Wr) : (ws.map Th.wr).map (Th.d K) = ws.map (wrD K) := by rw [List.map_map]; rfl
theorem kinds_map (ws : List Wr) : (ws.map Th.wr).map Th.kind = ws.map (·.k) := by rw [List.map_map]; rfl
theorem lsW_d (K : PySem.W.Frag) (ws : List Wr) : (lsW ws).d K = .lst (ws.map (wrD K)) := by show D.lst _ = _; rw [ths_map]
theorem tpW_d (K : PySem.W.Frag) (ws : List Wr) : (tpW ws).d K = rowD K ws := by show D.tup _ = _; rw [ths_map]; rfl
theorem isName_len {s : Str} (h : isNameS s = true) : 1 ≤ s.length ∧ s.length ≤ 8 := by
  unfold isNameS at h
  simp only [Bool.and_eq_true, decide_eq_true_eq] at h
  exact ⟨h.1.1, h.1.2⟩
/-- what is passed for a table: each row as a list or as a tuple -/
structure PassW (f : Str × List Wr → Wv) : Prop where
  h : ∀ p, f p = lsW p.2 ∨ f p = tpW p.2
theorem PassW.look {f : Str × List Wr → Wv} (h : PassW f) {p : Str × List Wr} (r : RowOk p.2) : lookFault (f p) = none := by
  have e : lookThs (p.2.map Th.wr) = none := by
    unfold lookThs
    rw [List.length_map, if_pos ⟨r.n, r.m⟩, kinds_map, r.k]; rfl
  rcases h.h p with h | h <;> rw [h] <;> exact e
theorem PassW.ths {f : Str × List Wr → Wv} (h : PassW f) (p : Str × List Wr) : (f p).ths = p.2.map Th.wr := by
  rcases h.h p with h | h <;> rw [h] <;> rfl
theorem TbOk.sort {t : Tb} (h : TbOk t) : TbOk (sortW t) :=
  have m : ∀ {p}, p ∈ sortW t → p ∈ t := fun hp => (sortW_perm t).mem_iff.mp hp
  ⟨sortW_nd h.nd, fun p hp => h.nm p (m hp), fun p hp => h.row p (m hp), by rw [(sortW_perm t).length_eq]; exact h.n, by rw [(sortW_perm t).length_eq]; exact h.m⟩
theorem map_fst {α β : Type} (f : Str × α → β) (t : List (Str × α)) : (t.map fun p => (p.1, f p)).map (·.1) = t.map (·.1) := by rw [List.map_map]; rfl
theorem sortW_map' {α β : Type} (f : Str × α → β) {ws : List (Str × α)} (nd : (ws.map (·.1)).Nodup) : sortW (ws.map fun p => (p.1, f p)) = (sortW ws).map fun p => (p.1, f p) := by
  refine (sortW_uniq (by rw [map_fst]; exact nd) ?_ ((sortW_perm ws).map _)).symm
  exact List.pairwise_map.mpr (sortW_pw ws)
section
variable {K : PySem.W.Frag} {t : Tb} {f : Str × List Wr → Wv}
theorem TbOk.wks (h : TbOk t) (hf : PassW f) : WksOk (t.map fun p => (p.1, f p)) := by
  refine ⟨by rw [map_fst]; exact h.nd, fun q hq => ?_, fun q hq => ?_, by rw [List.length_map]; have := h.m; omega⟩
  · obtain ⟨p, hp, rfl⟩ := List.mem_map.mp hq
    have r := h.row p hp
    have hall : (∀ x ∈ p.2.map Th.wr, x.ok) ∧ (p.2.map Th.wr).length ≤ 1000 := ⟨fun x hx => by
      obtain ⟨w, hw, rfl⟩ := List.mem_map.mp hx
      exact (r.g w hw).g.gk, by rw [List.length_map]; have := r.m; omega⟩
    show (f p).ok
    rcases hf.h p with e | e <;> rw [e] <;> exact hall
  · obtain ⟨p, hp, rfl⟩ := List.mem_map.mp hq
    have := isName_len (h.nm p hp)
    show p.1.length ≤ _
    omega
theorem TbOk.none (h : TbOk t) (hf : PassW f) : castFault (t.map fun p => (p.1, f p)) = none := by
  unfold castFault
  rw [List.length_map, if_pos ⟨h.n, h.m⟩, List.findSome?_eq_none_iff]
  intro q hq
  obtain ⟨p, hp, rfl⟩ := List.mem_map.mp ((sortW_perm _).mem_iff.mp hq)
  unfold nameFault
  rw [if_pos (h.nm p hp), hf.look (h.row p hp)]; rfl
theorem TbOk.ctb (h : TbOk t) (hf : PassW f) : ctbD K (t.map fun p => (p.1, f p)) = tbD K (sortW t) := by
  unfold ctbD
  rw [sortW_map' f h.nd]
  show dicD (List.map _ (List.map _ _)) = dicD _
  rw [List.map_map]
  refine congrArg dicD (List.map_congr_left fun p hp => ?_)
  show (_, D.tup (((f p).ths).map (Th.d K))) = _
  rw [hf.ths, ths_map]; rfl
theorem wks_D (t : Tb) (f : Str × List Wr → Wv) : wksD K (t.map fun p => (p.1, f p)) = dicT t (·.1) fun p => (f p).d K := by
  show dicD (List.map _ (List.map _ _)) = dicD _
  rw [List.map_map]; rfl
end
theorem passL : PassW fun p => lsW p.2 := ⟨fun _ => .inl rfl⟩
theorem passT : PassW fun p => tpW p.2 := ⟨fun _ => .inr rfl⟩
section
variable {X : Cx} {W : WX} {R : Rx X.K} {I : Iv X.K} {e : Expr} {δ : DEnv} {P : D → Iv X.K → Prop} {pos p : Pos} {t : Tb}
/-- Cast(works) -/
theorem ev_cast (E : Env X.prog X.w X.K X.mg X.base) (tk : Takes X W) (hr : Room 5 X.A) (h : EvX X W R e δ I fun d I1 => ∃ ws, d = wksD X.K ws ∧ WksOk ws ∧ match castFault ws with
    | none => P (.slo (cC X.K) [ctbD X.K ws]) I1
    | some no => R (He.ga X.K "InvalidCast") (xCast X.K no.1 no.2) I1)
    (hg : Gl X "Cast" := by rfl) (hall : (backToKw pos (keywordEach [] X.env)).all (·.1.isSome) = true := by rfl) (hks : (backToKw pos (keywordEach [] X.env)).filterMap (·.1) = ([] : List Str) := by rfl)
    (h1 : starEach [e] X.env = (false, eval e X.env) :: starEach [] X.env := by rfl) (hpl : ((backTo pos (starEach [e] X.env)).any (·.1) || (backToKw pos (keywordEach [] X.env)).any (·.1.isNone)) = false := by rfl) : EvX X W R (.Call (.Name "Cast" p) [e] [] pos) δ I P := by
  obtain ⟨fI, F, g, b1⟩ := M_cInit E
  refine ev_makeSl (ks := []) (fun ds _ => ds) tk E.m_Cast F hr E.g_Cast b1 (fun r1 _ => r1) (ea_cons (h.imp fun d I1 hh => ?_) h1) hg (by decide) hall hks h1 hpl
  obtain ⟨ws, rfl, o, q⟩ := hh
  refine ea_nil (ek_nil ⟨rfl, rfl, fun y dy na => ⟨y, dy, I1, ws, rfl, rfl, o, ?_⟩⟩)
  cases hf : castFault ws with
  | none =>
    rw [hf] at q
    exact ⟨rfl, [ctbD X.K ws], rfl, q⟩
  | some no =>
    rw [hf] at q
    exact ⟨_, rfl, q⟩
theorem pv_castG (E : Env X.prog X.w X.K X.mg X.base) (hr : Room 5 X.A) (o : TbOk t) {f : Str × List Wr → Wv} (hf : PassW f) (h : PV X I e δ (dicT t (·.1) fun p => (f p).d X.K))
    (hg : Gl X "Cast" := by rfl) (hall : (backToKw pos (keywordEach [] X.env)).all (·.1.isSome) = true := by rfl) (hks : (backToKw pos (keywordEach [] X.env)).filterMap (·.1) = ([] : List Str) := by rfl)
    (h1 : starEach [e] X.env = (false, eval e X.env) :: starEach [] X.env := by rfl) (hpl : ((backTo pos (starEach [e] X.env)).any (·.1) || (backToKw pos (keywordEach [] X.env)).any (·.1.isNone)) = false := by rfl) : PV X I (.Call (.Name "Cast" p) [e] [] pos) δ (cD X.K (sortW t)) := fun W R P pp => by
  refine EvX.weak (ev_cast E takesF hr (h.ev ⟨_, (wks_D t f).symm, o.wks hf, ?_⟩) hg hall hks h1 hpl)
  rw [o.none hf]
  show P (.slo _ [ctbD X.K _]) I
  rw [o.ctb hf]
  exact pp
/-- .. its rows as lists, as tuples -/
theorem pv_castL (E : Env X.prog X.w X.K X.mg X.base) (hr : Room 5 X.A) (o : TbOk t) (h : PV X I e δ (dicT t (·.1) fun p => .lst (p.2.map (wrD X.K))))
    (hg : Gl X "Cast" := by rfl) (hall : (backToKw pos (keywordEach [] X.env)).all (·.1.isSome) = true := by rfl) (hks : (backToKw pos (keywordEach [] X.env)).filterMap (·.1) = ([] : List Str) := by rfl)
    (h1 : starEach [e] X.env = (false, eval e X.env) :: starEach [] X.env := by rfl) (hpl : ((backTo pos (starEach [e] X.env)).any (·.1) || (backToKw pos (keywordEach [] X.env)).any (·.1.isNone)) = false := by rfl) : PV X I (.Call (.Name "Cast" p) [e] [] pos) δ (cD X.K (sortW t)) :=
  pv_castG E hr o passL (h.is (by simp only [lsW_d])) hg hall hks h1 hpl
theorem pv_castT (E : Env X.prog X.w X.K X.mg X.base) (hr : Room 5 X.A) (o : TbOk t) (h : PV X I e δ (tbD X.K t))
    (hg : Gl X "Cast" := by rfl) (hall : (backToKw pos (keywordEach [] X.env)).all (·.1.isSome) = true := by rfl) (hks : (backToKw pos (keywordEach [] X.env)).filterMap (·.1) = ([] : List Str) := by rfl)
    (h1 : starEach [e] X.env = (false, eval e X.env) :: starEach [] X.env := by rfl) (hpl : ((backTo pos (starEach [e] X.env)).any (·.1) || (backToKw pos (keywordEach [] X.env)).any (·.1.isNone)) = false := by rfl) : PV X I (.Call (.Name "Cast" p) [e] [] pos) δ (cD X.K (sortW t)) :=
  pv_castG E hr o passT (h.is (by simp only [tpW_d])) hg hall hks h1 hpl
end
end LK
set_option Elab.async false
set_option linter.all false
set_option maxRecDepth 100000
set_option maxHeartbeats 1000000
namespace LK
open PySem PySem.Spec PyProof.Rows L2 DL
/-! ### what a cast answers -/
def isPlainW (w : Wr) : Bool := decide (w.k = "say") && (decide (w.l = "") && decide (w.e = "newline"))
def kAt (ws : List Wr) (k : Nat) : Str := (ws[k]?.map (·.k)).getD ""
def gapsR (p : Str × List Wr) : List (Str × Nat) := ((List.range (p.2.length - 1)).filter fun k => !decide (kAt p.2 k = "ask")).map fun k => (p.1, k)
def gapsT (t : Tb) : List (Str × Nat) := t.flatMap gapsR
def linesR (p : Str × List Wr) : List (Str × Nat) := (p.2.zipIdx.filter fun q => isPlainW q.1).map fun q => (p.1, q.2)
def linesT (t : Tb) : List (Str × Nat) := t.flatMap linesR
def pairD (q : Str × Nat) : D := .tup [.str q.1, .int q.2]
theorem len_flat {α β : Type} {n : Nat} {f : α → List β} : ∀ {t : List α}, (∀ p ∈ t, (f p).length ≤ n) → (t.flatMap f).length ≤ n * t.length
  | [], _ => by simp
  | p :: t, h => by
    rw [List.flatMap_cons, List.length_append, List.length_cons, Nat.mul_succ]
    have h1 := h p (by simp)
    have h2 := len_flat (t := t) fun q hq => h q (by simp [hq])
    omega
theorem gapsR_len (p : Str × List Wr) : (gapsR p).length ≤ p.2.length := by
  unfold gapsR
  rw [List.length_map]
  exact Nat.le_trans (List.length_filter_le _ _) (by rw [List.length_range]; omega)
theorem linesR_len (p : Str × List Wr) : (linesR p).length ≤ p.2.length := by
  unfold linesR
  rw [List.length_map]
  exact Nat.le_trans (List.length_filter_le _ _) (by rw [List.length_zipIdx]; omega)
theorem sum_flat {β : Type} {f : Str × List Wr → List β} (hf : ∀ p, (f p).length ≤ p.2.length) {t : Tb} (o : TbOk t) {p : Tb} {r : Tb} (e : t = p ++ r) : (p.flatMap f).length ≤ 48 := by
  have h1 := len_flat (t := p) (f := f) (n := 8) fun q hq => Nat.le_trans (hf q) (o.row q (by rw [e]; simp [hq])).m
  have h2 := o.m
  rw [e, List.length_append] at h2
  omega
def sPlain {K : PySem.W.Frag} : Spec K := fun I ds P _ => ∃ w, ds = [wrD K w] ∧ P (.bl (isPlainW w)) I
def sNames {K : PySem.W.Frag} : Spec K := fun I ds P _ => ∃ t, ds = [cD K t] ∧ P (.tub (t.map fun p => .str p.1)) I
def sGaps {K : PySem.W.Frag} (f : Tb → List (Str × Nat)) : Spec K := fun I ds P _ => ∃ t, ds = [cD K t] ∧ TbOk t ∧ ∀ a, P (.adr a) (I.and (iLst K a ((f t).map pairD)))
section
variable {K : PySem.W.Frag} {t : Tb} {p : Str × List Wr}
theorem tb_get (o : TbOk t) (hp : p ∈ t) : getG (t.map fun x => ((.inr x.1 : Key), rowD K x.2)) (.inr p.1) = some (rowD K p.2) := get_dicT (k := fun x : Str × List Wr => x.1) (v := fun x => rowD K x.2) o.nd hp
end
section
variable {P : Program} {w : World} {K : PySem.W.Frag} {mg : Str → Option Value} {base : Heap}
theorem M_names (E : Env P w K mg base) : FnR P w K mg base (L2.CX P w) 1 (gtr K (cC K) "names") (spD K sNames) := mk_m_Cast_names E fun fd F => by
  refine fn_d F sc_m_Cast_names (fun I ds P R h => by obtain ⟨t, rfl, _⟩ := h; rfl) fun cdv A outer s H EE hr tk po I ds Q R h => ?_
  obtain ⟨t, rfl, q⟩ := h
  exact s_one (s_retP (pv_tupleD E.b_tuple (pv_sl E.k_Cast.sc E.s_Cast_table (pv_v 0) rfl)) q)
theorem M_gaps (E : Env P w K mg base) : FnR P w K mg base (L2.CX P w) 3 (He.ma K (cC K) "gaps") (spD K (sGaps gapsT)) := mk_m_Cast_gaps E fun fd F => by
  refine fn_d F sc_m_Cast_gaps (fun I ds P R h => by obtain ⟨t, rfl, _⟩ := h; rfl) fun cdv A outer s H EE hr tk po I ds Q R h => ?_
  obtain ⟨t, rfl, o, q⟩ := h
  have nd := sc_m_Cast_gaps.nd
  have hu := hr.units
  have hu1 := hr.u1
  refine s_cons (s_set 1 (ev_lstM' va_nil (by decide) fun a => ?_))
  refine s_cons (s_forT (xs := t) (g := fun p => D.str p.1) po (vi_dicT (pv_sl E.k_Cast.sc E.s_Cast_table (pv_v 0) rfl)) (fun p δ' I' => I' = I.and (iLst K a ((gapsT p).map pairD)) ∧ DLe δ' [some (cD K t), some (.adr a), none, none, none]) ⟨rfl, .of rfl rfl⟩ ?_ ?_)
  · rintro p x r δ' I' e ⟨rfl, hle⟩
    have hx : x ∈ t := by rw [e]; simp
    refine ⟨_, [2], (bind_name 2).le hle, ?_⟩
    refine s_cons (s_setP 3 (pv_dget hu1 (.inl rfl) (pv_sl E.k_Cast.sc E.s_Cast_table (pv_v 0) rfl) (pv_v 2) rfl (tb_get o hx)) ?_)
    have hl := (o.row x hx).m
    refine s_one (s_extend (.r I .here) (pv_v 1) rfl (pv_lcT (xs := List.range (x.2.length - 1)) (g := fun i : Nat => D.int i) (fun i => pairD (x.1, i)) (fun i => !decide (kAt x.2 i = "ask")) [("k", 4)] (fun i => [some (cD K t), some (.adr a), some (.str x.1), some (rowD K x.2), some (.int i)]) ?_ (by rw [List.length_range]; omega) (fun i s H C cl fp => bind_name 4) (fun i hi J s H C cl fp => ?_) fun i hi ht J s H C cl fp => ?_) ?_ ?_)
    · have e2 : (((x.2.map (wrD K)).length : Int) - 1).toNat = x.2.length - 1 := by rw [List.length_map]; omega
      rw [← e2]
      exact vi_range1 E.b_range (pv_op op_sub (pv_len E.b_len (pv_w (d := .tup (x.2.map (wrD K))) 3 rfl) trivial) pv_int p2_sub) (by rw [List.length_map]; omega) (by omega)
    · have hi2 : i < x.2.length := by have := List.mem_range.mp hi; omega
      have e2 : kAt x.2 i = x.2[i].k := by unfold kAt; rw [List.getElem?_eq_getElem hi2]; rfl
      rw [e2]
      exact pt_ne hu (pv_wkind E hr (pv_ix ix_tup (pv_w (d := .tup (x.2.map (wrD K))) 3 rfl) (pv_w 4 rfl) (p2_ixT (atI_m (List.getElem?_eq_getElem hi2))))) (pv_gstr E.c_ASK) trivial
    · exact pv_tup (va_cons (pv_v 2) (va_cons (pv_v 4) va_nil))
    · have h1 := sum_flat gapsR_len o e
      have h2 := gapsR_len x
      show ((gapsT p).map pairD).length + (List.map _ _).length < _
      rw [List.length_map, List.length_map]
      have h3 : (gapsT p).length ≤ 48 := h1
      have h4 : ((List.range (x.2.length - 1)).filter fun i => !decide (kAt x.2 i = "ask")).length ≤ x.2.length := by
        unfold gapsR at h2; rwa [List.length_map] at h2
      omega
    · refine ⟨?_, .of rfl rfl⟩
      have e3 : gapsT (p ++ [x]) = gapsT p ++ gapsR x := by unfold gapsT; rw [List.flatMap_append]; simp
      show I.and (iLst K a ((gapsT p).map pairD ++ _)) = _
      rw [e3, List.map_append]
      unfold gapsR
      rw [List.map_map]; rfl
  · rintro δ' I' ⟨rfl, hle⟩
    exact SX.le hle (s_one (s_retP (pv_v 1) (q a)))
end
section
variable {X : Cx} {W : WX} {R : Rx X.K} {I : Iv X.K} {e : Expr} {δ : DEnv} {P : D → Iv X.K → Prop} {pos apos : Pos} {t : Tb}
theorem E_plg (E : Env X.prog X.w X.K X.mg X.base) : PlG X.K (cC X.K) := ⟨fun f => E.k_Cast.sc.get f⟩
theorem pv_cnames (E : Env X.prog X.w X.K X.mg X.base) (hr : Room 2 X.A) (ha : PV X I e δ (cD X.K t)) (hb : attributeBase e "names" X.env (eval e X.env) = eval e X.env := by rfl) : PV X I (.Attribute e "names" pos) δ (.tub (t.map fun p => .str p.1)) :=
  pv_prop E.k_Cast.sc E.p_Cast_names (M_names E) hr ha (fun P p => ⟨t, rfl, p⟩) hb
end
end LK
set_option Elab.async false
set_option linter.all false
set_option maxRecDepth 100000
set_option maxHeartbeats 1000000
namespace LK
open PySem PySem.Spec PyProof.Rows L2 DL
/-! ### asked of a cast -/
theorem isName_ok {s : Str} (h : isNameS s = true) : PyData.strOk s = true := by
  unfold isNameS at h
  have h2 := (Bool.and_eq_true_iff.mp h).2
  unfold PyData.strOk
  rw [← Array.all_toList]
  refine List.all_eq_true.mpr fun c hc => ?_
  have k : ∀ c ∈ (Str.ofString "abcdefghijklmnopqrstuvwxyz").cps.toList, (decide (c < 1114112)) = true := by decide +kernel
  exact k c (of_decide_eq_true (List.all_eq_true.mp h2 c hc))
theorem inj_pair : Inj pairD := Inj.pair Inj.str Inj.nat
theorem okD_pair {q : Str × Nat} (h : PyData.strOk q.1 = true) : OkD 1 (pairD q) := .t2 (n := 0) (.str h) .int
theorem okD_pairs {l : List (Str × Nat)} (h : ∀ q ∈ l, PyData.strOk q.1 = true) : OkD 2 (.lst (l.map pairD)) := .lst (n := 1) (.map fun q hq => okD_pair (h q hq))
theorem gapsR_fst {p : Str × List Wr} {q : Str × Nat} (h : q ∈ gapsR p) : q.1 = p.1 := by
  unfold gapsR at h
  obtain ⟨k, _, rfl⟩ := List.mem_map.mp h; rfl
theorem linesR_fst {p : Str × List Wr} {q : Str × Nat} (h : q ∈ linesR p) : q.1 = p.1 := by
  unfold linesR at h
  obtain ⟨k, _, rfl⟩ := List.mem_map.mp h; rfl
theorem TbOk.gapOk {t : Tb} (o : TbOk t) : ∀ q ∈ gapsT t, PyData.strOk q.1 = true := fun q hq => by
  obtain ⟨p, hp, hq⟩ := List.mem_flatMap.mp hq
  rw [gapsR_fst hq]; exact isName_ok (o.nm p hp)
theorem TbOk.lineOk {t : Tb} (o : TbOk t) : ∀ q ∈ linesT t, PyData.strOk q.1 = true := fun q hq => by
  obtain ⟨p, hp, hq⟩ := List.mem_flatMap.mp hq
  rw [linesR_fst hq]; exact isName_ok (o.nm p hp)
section
variable {X : Cx} {W : WX} {R : Rx X.K} {I : Iv X.K} {e : Expr} {δ : DEnv} {P : D → Iv X.K → Prop} {pos apos : Pos} {t : Tb}
theorem ev_gaps {pl : Sem Bool} (E : Env X.prog X.w X.K X.mg X.base) (tk : Takes X W) (hr : Room 3 X.A) (he : PV X I e δ (cD X.K t)) (o : TbOk t) (p : ∀ a, P (.adr a) (I.and (iLst X.K a ((gapsT t).map pairD))))
    (ht : eval (.Call (.Attribute e "gaps" apos) [] [] pos) X.env = (do
      let ov ← eval e X.env
      standAt apos.atName
      let (f, first) ← holding [ov] (getMethod ov "gaps" pl)
      callWith pos f first (backTo pos (starEach [] X.env)) (backToKw pos (keywordEach [] X.env))) := by rfl) : EvX X W R (.Call (.Attribute e "gaps" apos) [] [] pos) δ I P :=
  ev_meth0 tk (E_plg E) E.h_Cast_gaps.f E.h_Cast_gaps.i E.h_Cast_gaps.k (M_gaps E) hr (he.ev ⟨insD_slo, t, rfl, o, p⟩) ht
end
end LK
set_option Elab.async false
set_option linter.all false
set_option maxRecDepth 100000
set_option maxHeartbeats 1000000
namespace LK
open PySem PySem.Spec PyProof.Rows L2 DL
/-! ### a cast asked for its rows -/
def rowOf (t : Tb) (n : Str) : Option (List Wr) := (t.find? fun p => decide (p.1 = n)).map (·.2)
theorem rowOf_some {t : Tb} (nd : (t.map (·.1)).Nodup) {p : Str × List Wr} (hp : p ∈ t) : rowOf t p.1 = some p.2 := by
  unfold rowOf
  cases h : t.find? fun q => decide (q.1 = p.1) with
  | none => exact absurd (List.find?_eq_none.mp h p hp) (by simp)
  | some q =>
    have h1 := List.mem_of_find?_eq_some h
    have h2 : q.1 = p.1 := by simpa using List.find?_some h
    rw [nd_inj nd h1 hp h2]; rfl
theorem rowOf_mem {t : Tb} {n : Str} {ws : List Wr} (h : rowOf t n = some ws) : (n, ws) ∈ t := by
  unfold rowOf at h
  cases e : t.find? fun q => decide (q.1 = n) with
  | none => rw [e] at h; cases h
  | some q =>
    rw [e] at h
    have h1 := List.mem_of_find?_eq_some e
    have h2 : q.1 = n := by simpa using List.find?_some e
    cases h
    rw [← h2]; exact h1
theorem rowOf_none {t : Tb} {n : Str} : rowOf t n = none ↔ n ∉ t.map (·.1) := by
  unfold rowOf
  rw [Option.map_eq_none_iff, List.find?_eq_none]
  constructor
  · intro h hn
    obtain ⟨p, hp, e⟩ := List.mem_map.mp hn
    exact h p hp (by simpa using e)
  · intro h p hp e
    exact h (List.mem_map.mpr ⟨p, hp, by simpa using e⟩)
theorem tb_getO {K : PySem.W.Frag} {t : Tb} (nd : (t.map (·.1)).Nodup) (n : Str) : getG (t.map fun x => ((.inr x.1 : Key), rowD K x.2)) (.inr n) = (rowOf t n).map (rowD K) := by
  cases h : rowOf t n with
  | none => exact getN_dicT (k := fun x : Str × List Wr => x.1) (v := fun x => rowD K x.2) (rowOf_none.mp h)
  | some ws => exact get_dicT (k := fun x : Str × List Wr => x.1) (v := fun x => rowD K x.2) nd (rowOf_mem h)
def total (t : Tb) : Nat := (t.map fun p => p.2.length).sum
def sGetI {K : PySem.W.Frag} : Spec K := fun I ds P R => ∃ t n, ds = [cD K t, .str n] ∧ (t.map (·.1)).Nodup ∧ match rowOf t n with
  | some ws => P (rowD K ws) I
  | none => R (He.ga K "UnknownWork") [("name", .str n)] I
def sHasI {K : PySem.W.Frag} : Spec K := fun I ds P R => ∃ t n, ds = [cD K t, .str n] ∧ (t.map (·.1)).Nodup ∧ P (.bl (rowOf t n).isSome) I
def sLenC {K : PySem.W.Frag} : Spec K := fun I ds P R => ∃ t, ds = [cD K t] ∧ (t.map (·.1)).Nodup ∧ total t ≤ 100000 ∧ t.length ≤ 1000 ∧ P (.int (total t)) I
section
variable {P : Program} {w : World} {K : PySem.W.Frag} {mg : Str → Option Value} {base : Heap}
theorem M_cget (E : Env P w K mg base) : FnR P w K mg base (L2.CX P w) 3 (He.ma K (cC K) "__getitem__") (spD K sGetI) := mk_m_Cast_getitem E fun fd F => by
  refine fn_d F sc_m_Cast_getitem (fun I ds P R h => by obtain ⟨t, n, rfl, _⟩ := h; rfl) fun cdv A outer s H EE hr tk po I ds Q R h => ?_
  obtain ⟨t, n, rfl, nd, q⟩ := h
  have hu1 := hr.u1
  have hr2 : Room 2 _ := hr
  have hg := tb_getO (K := K) nd n
  have ht : ∀ {I : Iv K} {p1 p2 : Pos}, PV (cxOf (L2.CX P w) P w K mg base ["self", "name"] "Cast.__getitem__" (defScope m_Cast_getitem) (He.ma K (cC K) "__getitem__") cdv A outer s H EE) I (.Attribute (.Name "self" p1) "table" p2) (dstart ["self", "name"] [cD K t, .str n]) (tbD K t) := pv_sl E.k_Cast.sc E.s_Cast_table (pv_v 0) rfl
  cases hh : rowOf t n with
  | none =>
    rw [hh] at q hg
    refine s_cons (s_ifP (pt_dnin hu1 (.inl rfl) (pv_v 1) ht rfl) (fun e => ?_) fun e => ?_)
    · exact s_one (s_rz (hr := hr2) tk E.x_UnknownWork E.ini_UnknownWork (ea_cons ((pv_v 1).ev (ea_nil ⟨rfl, by simp, q⟩))))
    · rw [hg] at e; cases e
  | some ws =>
    rw [hh] at q hg
    refine s_cons (s_ifP (pt_dnin hu1 (.inl rfl) (pv_v 1) ht rfl) (fun e => ?_) fun e => s_nil ?_)
    · rw [hg] at e; cases e
    · exact s_one (s_retP (pv_dget hu1 (.inl rfl) ht (pv_v 1) rfl hg) q)
theorem M_chas (E : Env P w K mg base) : FnR P w K mg base (L2.CX P w) 1 (He.ma K (cC K) "__contains__") (spD K sHasI) := mk_m_Cast_contains E fun fd F => by
  refine fn_d F sc_m_Cast_contains (fun I ds P R h => by obtain ⟨t, n, rfl, _⟩ := h; rfl) fun cdv A outer s H EE hr tk po I ds Q R h => ?_
  obtain ⟨t, n, rfl, nd, q⟩ := h
  have hu1 := hr.u1
  have hg := tb_getO (K := K) nd n
  have e : (getG (t.map fun x => ((.inr x.1 : Key), rowD K x.2)) (.inr n)).isSome = (rowOf t n).isSome := by rw [hg]; cases rowOf t n <;> rfl
  exact s_one (s_retP ((pv_din hu1 (.inl rfl) (pv_v 1) (pv_sl E.k_Cast.sc E.s_Cast_table (pv_v 0) rfl) rfl).is (by rw [e])) q)
theorem M_clen (E : Env P w K mg base) : FnR P w K mg base (L2.CX P w) 1 (He.ma K (cC K) "__len__") (spD K sLenC) := mk_m_Cast_len E fun fd F => by
  refine fn_d F sc_m_Cast_len (fun I ds P R h => by obtain ⟨t, rfl, _⟩ := h; rfl) fun cdv A outer s H EE hr tk po I ds Q R h => ?_
  obtain ⟨t, rfl, nd', hz, hz2, q⟩ := h
  have nd := sc_m_Cast_len.nd
  have hu1 := hr.u1
  have el : (t.flatMap fun x => x.2.map fun y => wrD K y).length = total t := by
    unfold total
    rw [List.length_flatMap]
    simp
  refine s_one (s_retP ((pv_len E.b_len (pv_lc2 (xs := t) (g := fun p => D.str p.1) (ys := fun p => p.2) (g1 := wrD K) (fun _ y => wrD K y) [("name", 1), ("write", 2)] [2] (fun x => [some (cD K t), some (.str x.1), none]) (fun x y => [some (cD K t), some (.str x.1), some (wrD K y)]) (vi_dicT (pv_sl E.k_Cast.sc E.s_Cast_table (pv_v 0) rfl)) (by rw [el]; omega) (fun x s H C cl fp => bind_name 1) (fun x hx J s H C cl fp => ?_) (fun x y s H C cl fp => bind_name 2) fun x hx y hy J s H C cl fp => pv_v (d := wrD K y) 2) trivial).is (by rw [el])) q)
  exact vi_tup (pv_dget hu1 (.inl rfl) (pv_sl E.k_Cast.sc E.s_Cast_table (pv_v 0) rfl) (pv_v 1) rfl (get_dicT (k := fun x : Str × List Wr => x.1) (v := fun x => rowD K x.2) nd' hx))
end
section
variable {X : Cx} {W : WX} {R : Rx X.K} {I : Iv X.K} {a b : Expr} {δ : DEnv} {P : D → Iv X.K → Prop} {pos p : Pos} {t : Tb} {n : Str} {ws : List Wr}
theorem pv_cget (E : Env X.prog X.w X.K X.mg X.base) (hr : Room 4 X.A) (nd : (t.map (·.1)).Nodup) (ha : PV X I a δ (cD X.K t)) (hb : PV X I b δ (.str n)) (hw : rowOf t n = some ws)
    (hsl : ∀ v i, subscripted b true v i = runValue (.builtin "lifetime.subscript" ⟨[v, i], []⟩) := by intro _ _; with_unfolding_all rfl) : PV X I (.Subscript a b pos) δ (rowD X.K ws) := fun W R P pp =>
  EvX.weak (ev_subOwn takesF E.h_Cast_getitem.f E.h_Cast_getitem.i E.fn_Cast_getitem (M_cget E) hr (ha.ev (hb.ev ⟨insD_slo, t, n, rfl, nd, by rw [hw]; exact pp⟩)) hsl)
theorem pv_cgetT (E : Env X.prog X.w X.K X.mg X.base) (hr : Room 4 X.A) (nd : (t.map (·.1)).Nodup) (ha : PV X I a δ (cD X.K t)) (hb : PV X I b δ (.str n)) (hw : rowOf t n = some ws)
    (hsl : ∀ v i, subscripted b true v i = runValue (.builtin "lifetime.subscript" ⟨[v, i], []⟩) := by intro _ _; with_unfolding_all rfl) : PV X I (.Subscript a b pos) δ (.tup (ws.map (wrD X.K))) := pv_cget E hr nd ha hb hw hsl
theorem pv_chas (E : Env X.prog X.w X.K X.mg X.base) (hr : Room 1 X.A) (nd : (t.map (·.1)).Nodup) (ha : PV X I a δ (.str n)) (hb : PV X I b δ (cD X.K t)) (hm : behindInMarks .In b = false := by rfl) : PV X I (.Compare a [.In] [b] pos) δ (.bl (rowOf t n).isSome) := fun W R P pp =>
  EvX.weak (ev_inOwn takesF E.h_Cast_contains.f E.h_Cast_contains.i (M_chas E) hr (ha.ev (hb.ev ⟨insD_slo, t, n, rfl, nd, _, rfl, pp⟩)) hm)
theorem pv_cnot (E : Env X.prog X.w X.K X.mg X.base) (hr : Room 1 X.A) (nd : (t.map (·.1)).Nodup) (ha : PV X I a δ (.str n)) (hb : PV X I b δ (cD X.K t)) (hm : behindInMarks .NotIn b = false := by rfl) : PV X I (.Compare a [.NotIn] [b] pos) δ (.bl (!(rowOf t n).isSome)) := fun W R P pp =>
  EvX.weak (ev_ninOwn takesF E.h_Cast_contains.f E.h_Cast_contains.i (M_chas E) hr (ha.ev (hb.ev ⟨insD_slo, t, n, rfl, nd, _, rfl, pp⟩)) hm)
theorem pv_clen (E : Env X.prog X.w X.K X.mg X.base) (hr : Room 2 X.A) (nd : (t.map (·.1)).Nodup) (hz : total t ≤ 100000) (hz2 : t.length ≤ 1000) (ha : PV X I a δ (cD X.K t)) (hg : Gl X "len" := by rfl) (h1 : starEach [a] X.env = (false, eval a X.env) :: starEach [] X.env := by rfl) (hpl : (backTo pos (starEach [] X.env)).any (·.1) = false := by rfl) : PV X I (.Call (.Name "len" p) [a] [] pos) δ (.int (total t)) :=
  pv_cb (call_lenOwn E.h_Cast_len.f E.h_Cast_len.i (M_clen E) hr takesPF) E.b_len (va_cons ha va_nil h1) (pn_lenOwn (by omega) fun P p => ⟨t, rfl, nd, hz, hz2, p⟩) (hg := hg) (he := h1) (hpl := hpl)
end
end LK
set_option Elab.async false
set_option linter.all false
set_option maxRecDepth 100000
set_option maxHeartbeats 1000000
namespace LK
open PySem PySem.Spec PyProof.Rows L2 DL
/-! ### where an order can be -/
abbrev cO (K : PySem.W.Frag) : Addr := He.ga K "Course"
abbrev nmT (t : Tb) : List Str := t.map (·.1)
def csD (cs : List Nat) : D := .tup (cs.map fun n : Nat => D.int n)
abbrev coF (K : PySem.W.Frag) (t : Tb) (hs : List (Str × Nat)) (q : Addr) : List (Str × D) := [("troupe", cD K t), ("titles", .tub ((nmT t).map D.str)), ("holds", .tup (hs.map pairD)), ("many", .adr q)]
def cAt (cs : List Nat) (i : Nat) : Nat := (cs[i]?).getD 0
def readyS (t : Tb) (cs : List Nat) (b : Str) : List Str := (((nmT t).zipIdx.filter fun p => decide (cAt cs p.2 < ((rowOf t p.1).getD []).length)).map (·.1)).filter fun n => decide (b = "") || decide (b = n)
def afterC (t : Tb) (cs : List Nat) (n : Str) : List Nat := cs.set ((nmT t).idxOf n) (cAt cs ((nmT t).idxOf n) + 1)
def afterB (t : Tb) (hs : List (Str × Nat)) (cs : List Nat) (n : Str) : Str := if (n, cAt cs ((nmT t).idxOf n)) ∈ hs then n else ""
/-- an instance of Course within a region -/
structure CoI {K : PySem.W.Frag} (I : Iv K) (x : Addr) (t : Tb) (hs : List (Str × Nat)) : Prop where
  ex : ∃ (c : Rc K) (dx q : Addr), I = c.fill (iIns K x (cO K) dx (coF K t hs q))
def sCoInit {K : PySem.W.Frag} : Spec K := fun I ds P _ => ∃ (x dx : Addr) (J : Iv K) (t : Tb) (hs : List (Str × Nat)), ds = [.adr x, cD K t, .tup (hs.map pairD)] ∧ I = J.and (iIns K x (cO K) dx []) ∧
  ∀ q, P .non ((J.and (iIns K x (cO K) dx (coF K t hs q))).and (iDic K q []))
def sStart {K : PySem.W.Frag} : Spec K := fun I ds P _ => ∃ x t hs, ds = [.adr x] ∧ CoI I x t hs ∧ 1 ≤ t.length ∧ t.length ≤ 1000 ∧ P (.tup [csD (List.replicate t.length 0), .str ""]) I
def sReady {K : PySem.W.Frag} : Spec K := fun I ds P _ => ∃ x t hs cs b, ds = [.adr x, csD cs, .str b] ∧ CoI I x t hs ∧ TbOk t ∧ cs.length = t.length ∧ P (.lst ((readyS t cs b).map D.str)) I
def sAfter {K : PySem.W.Frag} : Spec K := fun I ds P _ => ∃ x t hs cs n, ds = [.adr x, csD cs, .str n] ∧ CoI I x t hs ∧ TbOk t ∧ cs.length = t.length ∧ n ∈ nmT t ∧ (∀ q ∈ hs, PyData.strOk q.1 = true) ∧ P (.tup [csD (afterC t cs n), .str (afterB t hs cs n)]) I
def sWhole {K : PySem.W.Frag} : Spec K := fun I ds P _ => ∃ x t hs cs, ds = [.adr x, csD cs] ∧ CoI I x t hs ∧ TbOk t ∧ P (.bl (decide (cs.sum = total t))) I
theorem TbOk.tot {t : Tb} (o : TbOk t) : total t ≤ 48 := by
  have h : ∀ {s : Tb}, (∀ p ∈ s, p ∈ t) → total s ≤ 8 * s.length := by
    intro s
    induction s with
    | nil => intro _; simp [total]
    | cons p s ih =>
      intro h
      have h1 := (o.row p (h p (by simp))).m
      have h2 := ih fun q hq => h q (by simp [hq])
      show p.2.length + total s ≤ 8 * (s.length + 1)
      omega
  have := h (s := t) fun p hp => hp
  have := o.m
  omega
theorem sum_nat (cs : List Nat) : (cs.map fun n : Nat => (n : Int)).sum = (cs.sum : Nat) := by
  induction cs with
  | nil => rfl
  | cons c cs ih => rw [List.map_cons, List.sum_cons, ih, List.sum_cons]; omega
section
variable {P : Program} {w : World} {K : PySem.W.Frag} {mg : Str → Option Value} {base : Heap}
theorem M_coInit (E : Env P w K mg base) : ∃ fd, FnOk P w K mg base (L2.CX P w) 3 (He.ma K (cO K) "__init__") fd ["self", "cast", "holds"] (spD K sCoInit) ∧ L2.Binds K fd ["self", "cast", "holds"] [] := by
  obtain ⟨fd, F⟩ := E.has _ in_m_Course_init
  have F : FunD K "__init__" "Course.__init__" (defArgs m_Course_init) (defBody m_Course_init) (defScope m_Course_init) [] [] (He.ma K (cO K) "__init__") fd := F
  refine ⟨fd, ?_, F.bindsN fun _ _ _ _ _ _ us hl => match us, hl with | [_, _, _], _ => rfl⟩
  refine fn_d F sc_m_Course_init (fun I ds P R h => by obtain ⟨x, dx, J, t, hs, rfl, _⟩ := h; rfl) fun cdv A outer s H EE hr tk po I ds Q R h => ?_
  obtain ⟨x, dx, J, t, hs, rfl, rfl, q⟩ := h
  have hr2 : Room 2 _ := hr
  refine s_cons (s_fldP (.r J .here) E.l_Course E.a_Course_troupe (pv_v 0) (pv_v (d := cD K t) 1) ?_)
  refine s_cons (s_fldP (.r J .here) E.l_Course E.a_Course_titles (pv_v 0) (pv_cnames E hr2 (pv_v (d := cD K t) 1)) ?_)
  refine s_cons (s_fldP (.r J .here) E.l_Course E.a_Course_holds (pv_v 0) (pv_v (d := .tup (hs.map pairD)) 2) ?_)
  refine s_one (s_fld E.l_Course E.a_Course_many (ev_dnew fun p _ => ⟨.l (.r J .here) (iDic K p []), x, dx, _, rfl, pv_v 0, ?_, ?_⟩))
  · exact of_decide_eq_true (by rfl)
  have e : (t.map fun p => D.str p.1) = (nmT t).map D.str := by rw [List.map_map]; rfl
  rw [e]
  exact q p
theorem rep0 (n : Nat) : (List.replicate n [D.int 0]).flatten = (List.replicate n 0).map fun m : Nat => D.int m := by
  induction n with
  | zero => rfl
  | succ n ih => rw [List.replicate_succ, List.flatten_cons, ih, List.replicate_succ]; rfl
theorem M_start (E : Env P w K mg base) : FnR P w K mg base (L2.CX P w) 1 (He.ma K (cO K) "start") (spD K sStart) := mk_m_Course_start E fun fd F => by
  refine fn_d F sc_m_Course_start (fun I ds P R h => by obtain ⟨x, t, hs, rfl, _⟩ := h; rfl) fun cdv A outer s H EE hr tk po I ds Q R h => ?_
  obtain ⟨x, t, hs, rfl, ⟨c, dx, mq, rfl⟩, h1, h2, q⟩ := h
  have el : (((nmT t).map D.str).length : Int) = (t.length : Nat) := by simp
  refine s_one (s_retP ((pv_tup (va_cons (pv_rep (n := t.length) (pv_tup (va_cons pv_int va_nil)) ((pv_len E.b_len (pv_tub (pv_fld c E.l_Course E.a_Course_titles (pv_v 0) rfl)) trivial).is (by rw [el])) ⟨h1, h2⟩ (by simp) (by simp)) (va_cons pv_str va_nil))).is ?_) q)
  rw [rep0]; rfl
theorem mem_nm {t : Tb} {n : Str} (h : n ∈ nmT t) : ∃ ws, rowOf t n = some ws := by
  cases e : rowOf t n with
  | none => exact absurd h (rowOf_none.mp e)
  | some ws => exact ⟨ws, rfl⟩
theorem M_ready (E : Env P w K mg base) : FnR P w K mg base (L2.CX P w) 5 (He.ma K (cO K) "ready") (spD K sReady) := mk_m_Course_ready E fun fd F => by
  refine fn_d F sc_m_Course_ready (fun I ds P R h => by obtain ⟨x, t, hs, cs, b, rfl, _⟩ := h; rfl) fun cdv A outer s H EE hr tk po I ds Q R h => ?_
  obtain ⟨x, t, hs, cs, b, rfl, ⟨c, dx, mq, rfl⟩, o, hl, q⟩ := h
  have nd := sc_m_Course_ready.nd
  have hu65 := hr.u65
  have hr4 : Room 4 _ := hr
  have hm6 := o.m
  refine s_cons (s_setLc 3 [("place", 4), ("name", 5)] (lcT (xs := (nmT t).zipIdx) (g := fun p => .tup [.int p.2, .str p.1]) (fun p => .str p.1) (fun p => decide (cAt cs p.2 < ((rowOf t p.1).getD []).length)) [("place", 4), ("name", 5)] (fun p => [some (.adr x), some (csD cs), some (.str b), none, some (.int p.2), some (.str p.1)]) ?_ (by rw [List.length_zipIdx, List.length_map]; omega) (fun p s H C cl fp => bind_tup (bs_cons (bind_name 4) (bs_cons (bind_name 5) bs_nil))) (fun p hp J s H C cl fp => ?_) (fun p hp ht J s H C cl fp => pv_v 5) ?_))
  · rw [← enumD_map]
    exact vi_enumT E.b_enumerate (pv_tub (pv_fld c E.l_Course E.a_Course_titles (pv_v 0) rfl))
  · have hp1 := mem_zipIdx (x := p.1) (i := p.2) hp
    obtain ⟨ws, hw⟩ := mem_nm (List.mem_of_getElem? hp1)
    have hp2 : p.2 < cs.length := by
      have := (List.getElem?_eq_some_iff.mp hp1).1
      rw [List.length_map] at this; omega
    refine PVT.is (DL.pt_cmp op_lt (pv_ix ix_tup (pv_w (d := .tup (cs.map fun n : Nat => D.int n)) 1 rfl) (pv_w 4 rfl) (p2_ixT (atI_m (List.getElem?_eq_getElem hp2)))) (pv_len E.b_len (pv_cgetT E hr4 o.nd (pv_fld (.l c J) E.l_Course E.a_Course_troupe (pv_v 0) rfl) (pv_v 5) hw) trivial) p2_lt) ?_
    rw [hw]
    unfold cAt
    rw [List.getElem?_eq_getElem hp2, List.length_map]
    simp
  · refine s_one (s_retP ((pv_lcT (xs := (((nmT t).zipIdx.filter fun p : Str × Nat => decide (cAt cs p.2 < ((rowOf t p.1).getD []).length)).map fun p : Str × Nat => p.1)) (g := D.str) D.str (fun n => decide (b = "") || decide (b = n)) [("name", 5)] (fun n => [some (.adr x), some (csD cs), some (.str b), some (.lst (((nmT t).zipIdx.filter fun p : Str × Nat => decide (cAt cs p.2 < ((rowOf t p.1).getD []).length)).map fun p : Str × Nat => D.str p.1)), none, some (.str n)]) ?_ ?_ (fun n s H C cl fp => bind_name 5) (fun n hn J s H C cl fp => ?_) fun n hn ht J s H C cl fp => pv_v 5)) q)
    · rw [List.map_map]
      exact vi_lst (pv_v 3)
    · rw [List.length_map]
      exact Nat.le_trans (List.length_filter_le _ _) (by rw [List.length_zipIdx, List.length_map]; omega)
    · exact PVT.is (pt_in hu65 (pv_w 2 rfl) (pv_tup (va_cons pv_str (va_cons (pv_w 5 rfl) va_nil))) rfl) (by simp [strIn])
theorem M_after (E : Env P w K mg base) : FnR P w K mg base (L2.CX P w) 1 (He.ma K (cO K) "after") (spD K sAfter) := mk_m_Course_after E fun fd F => by
  refine fn_d F sc_m_Course_after (fun I ds P R h => by obtain ⟨x, t, hs, cs, n, rfl, _⟩ := h; rfl) fun cdv A outer s H EE hr tk po I ds Q R h => ?_
  obtain ⟨x, t, hs, cs, n, rfl, ⟨c, dx, mq, rfl⟩, o, hl, hn, hk, q⟩ := h
  have nd := sc_m_Course_after.nd
  have hu65 := hr.u65
  have hi : (nmT t).idxOf n < cs.length := by rw [hl]; have := List.idxOf_lt_length_of_mem hn; rwa [List.length_map] at this
  have ea : cs[(nmT t).idxOf n]? = some (cAt cs ((nmT t).idxOf n)) := by unfold cAt; rw [List.getElem?_eq_getElem hi]; rfl
  have hok : PyData.strOk n = true := by
    obtain ⟨p, hp, e⟩ := List.mem_map.mp hn
    rw [← e]; exact isName_ok (o.nm p hp)
  unfold afterC afterB at q
  generalize hii : (nmT t).idxOf n = i at *
  generalize cAt cs i = v at *
  refine s_cons (s_setP 3 ((pv_tindex (pv_fld c E.l_Course E.a_Course_titles (pv_v 0) rfl) (pv_v 2) hn).is (by rw [hii])) ?_)
  refine s_cons (s_setP (d := .str (if (n, v) ∈ hs then n else "")) 4 (pv_if (k := decide ((n, v) ∈ hs)) (PVT.is (pt_in hu65 (pv_tup (va_cons (pv_w 2 rfl) (va_cons (pv_ix ix_tup (pv_w (d := .tup (cs.map fun n : Nat => D.int n)) 1 rfl) (pv_w 3 rfl) (p2_ixT (atI_m ea))) va_nil))) (pv_fld c E.l_Course E.a_Course_holds (pv_v 0) rfl) ?_) ?_) (fun h => ?_) fun h => ?_) ?_)
  · exact ⟨(okD_pair (q := (n, v)) hok).mono (by decide), OkD.map fun q hq => (okD_pair (hk q hq)).mono (by decide)⟩
  · exact (inj_pair.any (n, v) hs).trans (by congr)
  · rw [if_pos (of_decide_eq_true h)]; exact pv_v 2
  · rw [if_neg (of_decide_eq_false h)]; exact pv_str
  · have hzz : (cutD (cs.map fun n : Nat => D.int n) none (some (i : Int)) ++ D.int ((v : Int) + 1) :: (cutD (cs.map fun n : Nat => D.int n) (some ((i : Int) + 1)) none ++ [])).length ≤ 1000 := by
      have e1 : ((i : Int) + 1) = ((i + 1 : Nat) : Int) := rfl
      rw [cut_take, e1, cut_drop, List.append_nil, List.length_append, List.length_cons, List.length_take, List.length_drop, List.length_map]
      have := o.m
      omega
    refine s_one (s_retP ((pv_tup (va_cons (pv_tup (va_star (pv_slT (pv_w (d := .tup (cs.map fun n : Nat => D.int n)) 1 rfl) vo_none (vo_some (pv_v 3))) (va_cons (pv_op op_add (pv_ix ix_tup (pv_w (d := .tup (cs.map fun n : Nat => D.int n)) 1 rfl) (pv_w 3 rfl) (p2_ixT (atI_m ea))) pv_int p2_add) (va_star (pv_slT (pv_w (d := .tup (cs.map fun n : Nat => D.int n)) 1 rfl) (vo_some (pv_op op_add (pv_v 3) pv_int p2_add)) vo_none) va_nil))) hzz) (va_cons (pv_v 4) va_nil))).is ?_) q)
    have e1 : ((i : Int) + 1) = ((i + 1 : Nat) : Int) := rfl
    rw [cut_take, e1, cut_drop, List.append_nil]
    show D.tup [.tup _, _] = .tup [.tup _, _]
    rw [List.set_eq_take_append_cons_drop, if_pos hi, List.map_append, List.map_cons, List.map_take, List.map_drop]
    rfl
theorem M_whole (E : Env P w K mg base) : FnR P w K mg base (L2.CX P w) 3 (He.ma K (cO K) "is_whole") (spD K sWhole) := mk_m_Course_is_whole E fun fd F => by
  refine fn_d F sc_m_Course_is_whole (fun I ds P R h => by obtain ⟨x, t, hs, cs, rfl, _⟩ := h; rfl) fun cdv A outer s H EE hr tk po I ds Q R h => ?_
  obtain ⟨x, t, hs, cs, rfl, ⟨c, dx, mq, rfl⟩, o, q⟩ := h
  have hu := hr.units
  have hr2 : Room 2 _ := hr
  have ht := o.tot
  have hm6 := o.m
  have ec : csD cs = .tup ((cs.map fun n : Nat => (n : Int)).map D.int) := by unfold csD; rw [List.map_map]; rfl
  refine s_one (s_retP ((pv_eq hu (pv_cb (cr_sumT rfl) E.b_sum (va_cons ((pv_v (d := csD cs) 1).is ec) va_nil) pn_sumT) (pv_clen E hr2 o.nd (by omega) (by omega) (pv_fld c E.l_Course E.a_Course_troupe (pv_v 0) rfl)) trivial).is ?_) q)
  rw [sum_nat]
  refine congrArg D.bl (decide_eq_decide.mpr ?_)
  omega
end
end LK
set_option Elab.async false
set_option linter.all false
set_option maxRecDepth 100000
set_option maxHeartbeats 1000000
namespace LK
open PySem PySem.Spec PyProof.Rows L2 DL
/-! ### orders, as they are -/
def walkO (t : Tb) (hs : List (Str × Nat)) (i : Nat) : List Str → List Nat × Str → (List Nat × Str) ⊕ Nat
  | [], s => .inl s
  | n :: ns, s => if n ∈ readyS t s.1 s.2 then walkO t hs (i + 1) ns (afterC t s.1 n, afterB t hs s.1 n) else .inr i
def st0 (t : Tb) : List Nat × Str := (List.replicate t.length 0, "")
def checkO (t : Tb) (hs : List (Str × Nat)) (ns : List Str) (wh : Bool) : Option Nat := match walkO t hs 0 ns (st0 t) with
  | .inr i => some i
  | .inl s => if (wh && !decide (s.1.sum = total t)) = true then some ns.length else none
/-- a whole order -/
structure Whole (t : Tb) (ns : List Str) : Prop where
  sub : ∀ n ∈ ns, n ∈ nmT t
  cnt : ∀ p ∈ t, ns.count p.1 = p.2.length
theorem cAt_map (t : Tb) (f : Str → Nat) {i : Nat} {n : Str} (h : (nmT t)[i]? = some n) : cAt ((nmT t).map f) i = f n := by
  unfold cAt
  rw [List.getElem?_map, h]; rfl
theorem ready_mem {t : Tb} (o : TbOk t) {f : Str → Nat} {n : Str} {ws : List Wr} (hw : rowOf t n = some ws) (hf : f n < ws.length) : n ∈ readyS t ((nmT t).map f) "" := by
  unfold readyS
  have hn : n ∈ nmT t := List.mem_map.mpr ⟨(n, ws), rowOf_mem hw, rfl⟩
  obtain ⟨i, hi⟩ := List.mem_iff_getElem?.mp hn
  have hz : (n, i) ∈ (nmT t).zipIdx := List.mem_zipIdx_iff_getElem?.mpr hi
  refine List.mem_filter.mpr ⟨List.mem_map.mpr ⟨(n, i), List.mem_filter.mpr ⟨hz, ?_⟩, rfl⟩, by simp⟩
  show decide (cAt _ i < ((rowOf t n).getD []).length) = true
  rw [cAt_map t f hi, hw]
  exact decide_eq_true hf
theorem after_map {t : Tb} (o : TbOk t) {f : Str → Nat} {n : Str} (hn : n ∈ nmT t) : afterC t ((nmT t).map f) n = (nmT t).map fun m => f m + if m = n then 1 else 0 := by
  unfold afterC
  have hi := List.idxOf_lt_length_of_mem hn
  have hg : (nmT t)[(nmT t).idxOf n]? = some n := by rw [List.getElem?_eq_getElem hi, List.getElem_idxOf]
  rw [cAt_map t f hg]
  have nd : (nmT t).Nodup := o.nd
  generalize nmT t = l at *
  apply List.ext_getElem?
  intro j
  rw [List.getElem?_set, List.getElem?_map]
  by_cases hj : l.idxOf n = j
  · subst hj
    rw [if_pos rfl, List.length_map, if_pos hi, List.getElem?_map, hg]
    simp
  · rw [if_neg hj, List.getElem?_map]
    cases e : l[j]? with
    | none => rfl
    | some m =>
      have hne : m ≠ n := fun em => hj (by
        subst em
        have hjl := (List.getElem?_eq_some_iff.mp e).1
        have e1 := (List.getElem?_eq_some_iff.mp e).2
        have e2 := (List.getElem?_eq_some_iff.mp hg).2
        exact (List.getElem_inj nd).mp (e2.trans e1.symm))
      simp [hne]
theorem walk_whole {t : Tb} (o : TbOk t) {ns : List Str} (h : Whole t ns) : ∀ (suf pre : List Str) (i : Nat), pre ++ suf = ns → walkO t [] i suf ((nmT t).map pre.count, "") = .inl ((nmT t).map ns.count, "")
  | [], pre, i, e => by rw [List.append_nil] at e; subst e; rfl
  | n :: suf, pre, i, e => by
    have hn : n ∈ ns := by rw [← e]; simp
    have hm := h.sub n hn
    obtain ⟨p, hp, ep⟩ := List.mem_map.mp hm
    have hw : rowOf t n = some p.2 := by rw [← ep]; exact rowOf_some o.nd hp
    have hlt : pre.count n < p.2.length := by
      rw [← h.cnt p hp, ep, ← e, List.count_append, List.count_cons_self]; omega
    show (if n ∈ readyS t ((nmT t).map pre.count) "" then _ else _) = _
    rw [if_pos (ready_mem o hw hlt)]
    have e2 : afterC t ((nmT t).map pre.count) n = (nmT t).map (pre ++ [n]).count := by
      rw [after_map o hm]
      refine List.map_congr_left fun m _ => ?_
      rw [List.count_append, List.count_cons, List.count_nil]
      by_cases hmn : m = n
      · subst hmn; simp
      · rw [if_neg hmn, if_neg (by simpa using fun h => hmn h.symm)]
    have e3 : afterB t [] ((nmT t).map pre.count) n = "" := by unfold afterB; rw [if_neg (List.not_mem_nil)]
    show walkO t [] (i + 1) suf (afterC t ((nmT t).map pre.count) n, afterB t [] ((nmT t).map pre.count) n) = _
    rw [e2, e3]
    exact walk_whole o h suf (pre ++ [n]) (i + 1) (by rw [List.append_assoc]; exact e)
theorem sum_cnt {t : Tb} {ns : List Str} (h : Whole t ns) : ((nmT t).map ns.count).sum = total t := by
  unfold total
  rw [List.map_map]
  exact congrArg List.sum (List.map_congr_left fun p hp => h.cnt p hp)
theorem st0_map (t : Tb) : st0 t = ((nmT t).map ([] : List Str).count, ("" : Str)) := by
  unfold st0
  refine congrArg (fun z => (z, ("" : Str))) ?_
  rw [List.map_map]
  apply List.ext_getElem?
  intro j
  rw [List.getElem?_replicate, List.getElem?_map]
  by_cases hj : j < t.length
  · rw [if_pos hj, List.getElem?_eq_getElem hj]; rfl
  · rw [if_neg hj, List.getElem?_eq_none (by omega)]; rfl
theorem check_whole {t : Tb} (o : TbOk t) {ns : List Str} (h : Whole t ns) : checkO t [] ns true = none := by
  unfold checkO
  rw [st0_map, walk_whole o h ns [] 0 rfl]
  show (if (true && !decide (((nmT t).map ns.count).sum = total t)) = true then _ else _) = _
  rw [sum_cnt h]; simp
/-! ### broken gaps -/
def posOf (ns : List Str) (n : Str) : List Nat := (ns.zipIdx.filter fun p => decide (p.1 = n)).map (·.2)
def brk (ns : List Str) (q : Str × Nat) : Bool := decide ((posOf ns q.1).getD q.2 0 + 1 < (posOf ns q.1).getD (q.2 + 1) 0)
def brokenT (t : Tb) (ns : List Str) : List (Str × Nat) := (gapsT t).filter (brk ns)
theorem pos_len (ns : List Str) (n : Str) : (posOf ns n).length = ns.count n := by
  unfold posOf
  rw [List.length_map, ← List.countP_eq_length_filter]
  have key : ∀ (k : Nat) (ns : List Str), (ns.zipIdx k).countP (fun p => decide (p.1 = n)) = ns.countP (· == n) := by
    intro k ns
    induction ns generalizing k with
    | nil => rfl
    | cons m ns ih =>
      rw [List.zipIdx_cons, List.countP_cons, List.countP_cons, ih]
      by_cases h : m = n <;> simp [h]
  exact key 0 ns
theorem gap_in {t : Tb} {q : Str × Nat} (h : q ∈ gapsT t) : ∃ p ∈ t, q.1 = p.1 ∧ q.2 + 1 < p.2.length ∧ kAt p.2 q.2 ≠ "ask" := by
  obtain ⟨p, hp, hq⟩ := List.mem_flatMap.mp h
  unfold gapsR at hq
  obtain ⟨k, hk, rfl⟩ := List.mem_map.mp hq
  obtain ⟨h1, h2⟩ := List.mem_filter.mp hk
  have := List.mem_range.mp h1
  exact ⟨p, hp, rfl, by show k + 1 < _; omega, by simpa using h2⟩
end LK
set_option Elab.async false
set_option linter.all false
set_option maxRecDepth 100000
set_option maxHeartbeats 1000000
namespace LK
open PySem PySem.Spec PyProof.Rows L2 DL
section
variable {X : Cx} {W : WX} {R : Rx X.K} {I : Iv X.K} {o a b e : Expr} {δ : DEnv} {P : D → Iv X.K → Prop} {pos apos p : Pos} {t : Tb} {hs : List (Str × Nat)} {x : Addr} {cs : List Nat} {n : Str}
theorem E_plgO (E : Env X.prog X.w X.K X.mg X.base) : PlG X.K (cO X.K) := ⟨fun f => E.l_Course.get f⟩
theorem CoI.ins {m : Str} (h : CoI I x t hs) (hm : ∀ q : Addr, (coF X.K t hs q).lookup m = none := by intro _; rfl) : InsD (cO X.K) m (.adr x) I := by
  obtain ⟨c, dx, q, rfl⟩ := h.ex
  exact insD_ins c (hm q)
theorem pv_start {pl : Sem Bool} (E : Env X.prog X.w X.K X.mg X.base) (hr : Room 1 X.A) (h : CoI I x t hs) (ho : PV X I o δ (.adr x)) (h1 : 1 ≤ t.length) (h2 : t.length ≤ 1000)
    (ht : eval (.Call (.Attribute o "start" apos) [] [] pos) X.env = (do
      let ov ← eval o X.env
      standAt apos.atName
      let (f, first) ← holding [ov] (getMethod ov "start" pl)
      callWith pos f first (backTo pos (starEach [] X.env)) (backToKw pos (keywordEach [] X.env))) := by rfl) : PV X I (.Call (.Attribute o "start" apos) [] [] pos) δ (.tup [csD (st0 t).1, .str (st0 t).2]) := fun W R P pp =>
  EvX.weak (ev_meth0 takesF (E_plgO E) E.h_Course_start.f E.h_Course_start.i E.h_Course_start.k (M_start E) hr (ho.ev ⟨h.ins, x, t, hs, rfl, h, h1, h2, pp⟩) ht)
theorem pv_ready {pl : Sem Bool} (E : Env X.prog X.w X.K X.mg X.base) (hr : Room 5 X.A) (h : CoI I x t hs) (ho : PV X I o δ (.adr x)) (ha : PV X I a δ (csD cs)) (hb : PV X I b δ (.str n)) (ok : TbOk t) (hl : cs.length = t.length)
    (hst : starEach [a, b] X.env = (false, eval a X.env) :: starEach [b] X.env := by rfl) (hst2 : starEach [b] X.env = (false, eval b X.env) :: starEach [] X.env := by rfl) (hpl : (backTo pos (starEach [b] X.env)).any (·.1) = false := by rfl)
    (ht : eval (.Call (.Attribute o "ready" apos) [a, b] [] pos) X.env = (do
      let ov ← eval o X.env
      standAt apos.atName
      let (f, first) ← holding [ov] (getMethod ov "ready" pl)
      callWith pos f first (backTo pos (starEach [a, b] X.env)) (backToKw pos (keywordEach [] X.env))) := by rfl) : PV X I (.Call (.Attribute o "ready" apos) [a, b] [] pos) δ (.lst ((readyS t cs n).map D.str)) := fun W R P pp =>
  EvX.weak (ev_methA takesF (E_plgO E) E.h_Course_ready.f E.h_Course_ready.i E.h_Course_ready.k (M_ready E) hr (ho.ev ⟨h.ins, ea_cons (ha.ev (ea_cons (hb.ev (ea_nil ⟨x, t, hs, cs, n, rfl, h, ok, hl, pp⟩)) hst2)) hst⟩) hst hpl ht)
theorem pv_after {pl : Sem Bool} (E : Env X.prog X.w X.K X.mg X.base) (hr : Room 1 X.A) (h : CoI I x t hs) (ho : PV X I o δ (.adr x)) (ha : PV X I a δ (csD cs)) (hb : PV X I b δ (.str n)) (ok : TbOk t) (hl : cs.length = t.length) (hn : n ∈ nmT t) (hk : ∀ q ∈ hs, PyData.strOk q.1 = true)
    (hst : starEach [a, b] X.env = (false, eval a X.env) :: starEach [b] X.env := by rfl) (hst2 : starEach [b] X.env = (false, eval b X.env) :: starEach [] X.env := by rfl) (hpl : (backTo pos (starEach [b] X.env)).any (·.1) = false := by rfl)
    (ht : eval (.Call (.Attribute o "after" apos) [a, b] [] pos) X.env = (do
      let ov ← eval o X.env
      standAt apos.atName
      let (f, first) ← holding [ov] (getMethod ov "after" pl)
      callWith pos f first (backTo pos (starEach [a, b] X.env)) (backToKw pos (keywordEach [] X.env))) := by rfl) : PV X I (.Call (.Attribute o "after" apos) [a, b] [] pos) δ (.tup [csD (afterC t cs n), .str (afterB t hs cs n)]) := fun W R P pp =>
  EvX.weak (ev_methA takesF (E_plgO E) E.h_Course_after.f E.h_Course_after.i E.h_Course_after.k (M_after E) hr (ho.ev ⟨h.ins, ea_cons (ha.ev (ea_cons (hb.ev (ea_nil ⟨x, t, hs, cs, n, rfl, h, ok, hl, hn, hk, pp⟩)) hst2)) hst⟩) hst hpl ht)
theorem pv_whole {pl : Sem Bool} (E : Env X.prog X.w X.K X.mg X.base) (hr : Room 3 X.A) (h : CoI I x t hs) (ho : PV X I o δ (.adr x)) (ha : PV X I a δ (csD cs)) (ok : TbOk t)
    (hst : starEach [a] X.env = (false, eval a X.env) :: starEach [] X.env := by rfl) (hpl : (backTo pos (starEach [] X.env)).any (·.1) = false := by rfl)
    (ht : eval (.Call (.Attribute o "is_whole" apos) [a] [] pos) X.env = (do
      let ov ← eval o X.env
      standAt apos.atName
      let (f, first) ← holding [ov] (getMethod ov "is_whole" pl)
      callWith pos f first (backTo pos (starEach [a] X.env)) (backToKw pos (keywordEach [] X.env))) := by rfl) : PV X I (.Call (.Attribute o "is_whole" apos) [a] [] pos) δ (.bl (decide (cs.sum = total t))) := fun W R P pp =>
  EvX.weak (ev_methA takesF (E_plgO E) E.h_Course_is_whole.f E.h_Course_is_whole.i E.h_Course_is_whole.k (M_whole E) hr (ho.ev ⟨h.ins, ea_cons (ha.ev (ea_nil ⟨x, t, hs, cs, rfl, h, ok, pp⟩)) hst⟩) hst hpl ht)
/-- the region of a new course -/
def iCo (K : PySem.W.Frag) (x dx q : Addr) (t : Tb) (hs : List (Str × Nat)) (kds : List (Key × D)) : Iv K := (iIns K x (cO K) dx (coF K t hs q)).and (iDic K q kds)
theorem coi_new {K : PySem.W.Frag} {I : Iv K} {x dx q : Addr} {t : Tb} {hs : List (Str × Nat)} {kds : List (Key × D)} : CoI (I.and (iCo K x dx q t hs kds)) x t hs := ⟨.r I (.l .here (iDic K q kds)), dx, q, rfl⟩
theorem ev_course (E : Env X.prog X.w X.K X.mg X.base) (tk : Takes X W) (hr : Room 4 X.A) (ha : PV X I a δ (cD X.K t)) (hb : PV X I b δ (.tup (hs.map pairD))) (pp : ∀ x dx q, P (.adr x) (I.and (iCo X.K x dx q t hs [])))
    (hg : Gl X "Course" := by rfl) (he : starEach [a, b] X.env = (false, eval a X.env) :: starEach [b] X.env := by rfl) (he2 : starEach [b] X.env = (false, eval b X.env) :: starEach [] X.env := by rfl) (hpl : (backTo pos (starEach [b] X.env)).any (·.1) = false := by rfl) : EvX X W R (.Call (.Name "Course" p) [a, b] [] pos) δ I P := by
  obtain ⟨fd, F, bb⟩ := M_coInit E
  refine EvX.reg (P' := fun d I' => ∃ y dy q, d = .adr y ∧ I' = (I.and (iIns X.K y (cO X.K) dy (coF X.K t hs q))).and (iDic X.K q [])) (ev_makeI tk E.m_Course F hr E.g_Course bb (ea_cons (ha.ev (ea_cons (hb.ev (ea_nil fun y dy na => ⟨y, dy, I, t, hs, rfl, rfl, fun q => ⟨rfl, y, dy, q, rfl, rfl⟩⟩)) he2)) he) hg (by decide) he hpl) ?_
  rintro d I' ⟨y, dy, q, rfl, rfl⟩
  exact ⟨_, .assoc, pp y dy q⟩
end
def sChecked {K : PySem.W.Frag} : Spec K := fun I ds P R => ∃ t hs ns d wh, ds = [cD K t, d, .tup (hs.map pairD), .bl wh] ∧ (d = .lst (ns.map D.str) ∨ d = .tup (ns.map D.str)) ∧ TbOk t ∧ (∀ q ∈ hs, PyData.strOk q.1 = true) ∧ ns.length ≤ 1000 ∧ match checkO t hs ns wh with
  | none => P (.tup (ns.map D.str)) I
  | some i => R (He.ga K "WrongOrder") [("index", .int i)] I
def sBroken {K : PySem.W.Frag} : Spec K := fun I ds P R => ∃ t ns d, ds = [cD K t, d] ∧ (d = .lst (ns.map D.str) ∨ d = .tup (ns.map D.str)) ∧ TbOk t ∧ Whole t ns ∧ ns.length ≤ 1000 ∧ P (.tup ((brokenT t ns).map pairD)) I
theorem afterC_len {t : Tb} {cs : List Nat} {n : Str} : (afterC t cs n).length = cs.length := by unfold afterC; rw [List.length_set]
theorem ready_nm {t : Tb} {cs : List Nat} {b n : Str} (h : n ∈ readyS t cs b) : n ∈ nmT t := by
  unfold readyS at h
  obtain ⟨h, _⟩ := List.mem_filter.mp h
  obtain ⟨p, hp, rfl⟩ := List.mem_map.mp h
  exact List.mem_of_getElem? (mem_zipIdx (x := p.1) (i := p.2) (List.mem_filter.mp hp).1)
/-- walked so far -/
theorem walk_app {t : Tb} {hs : List (Str × Nat)} : ∀ (p r : List Str) (i : Nat) (s s' : List Nat × Str), walkO t hs i p s = .inl s' → walkO t hs i (p ++ r) s = walkO t hs (i + p.length) r s'
  | [], r, i, s, s', h => by cases h; rfl
  | n :: p, r, i, s, s', h => by
    show (if n ∈ readyS t s.1 s.2 then walkO t hs (i + 1) (p ++ r) _ else _) = _
    have h : (if n ∈ readyS t s.1 s.2 then walkO t hs (i + 1) p (afterC t s.1 n, afterB t hs s.1 n) else .inr i) = .inl s' := h
    by_cases hn : n ∈ readyS t s.1 s.2
    · rw [if_pos hn] at h ⊢
      rw [walk_app p r (i + 1) _ s' h, List.length_cons]
      congr 1; omega
    · rw [if_neg hn] at h; cases h
section
variable {P : Program} {w : World} {K : PySem.W.Frag} {mg : Str → Option Value} {base : Heap}
theorem D_checked (E : Env P w K mg base) : Def P w K mg base "checked_order" 6 ["cast", "order", "holds", "is_whole"] [] sChecked := mk_f_checked_order E fun fd F => by
  refine fn_d F sc_f_checked_order (fun I ds P R h => by obtain ⟨t, hs, ns, d, wh, rfl, _⟩ := h; rfl) fun cdv A outer s H EE hr tk po I ds Q R h => ?_
  obtain ⟨t, hs, ns, d, wh, rfl, hd, o, hk, hz, q⟩ := h
  have nd := sc_f_checked_order.nd
  have hu65 := hr.u65
  have hr1 : Room 1 _ := hr.mono (by decide)
  have hr2 : Room 2 _ := hr.mono (by decide)
  have hr3 : Room 3 _ := hr.mono (by decide)
  have hr4 : Room 4 _ := hr.mono (by decide)
  have hr5 : Room 5 _ := hr
  have hm6 := o.m
  refine s_cons (s_set 4 (ev_course E tk hr4 (pv_v (d := cD K t) 0) (pv_v (d := .tup (hs.map pairD)) 2) fun x dx mq => ?_))
  obtain ⟨J, hJ, hco⟩ : ∃ J : Iv K, J = iCo K x dx mq t hs [] ∧ CoI (I.and J) x t hs := ⟨_, rfl, coi_new⟩
  refine SX.eq (show I.and (iCo K x dx mq t hs []) = I.and J by rw [hJ]) ?_
  clear hJ
  refine s_cons (s_asgP (pv_start E hr1 hco (pv_v 4) o.n (by omega)) (bind_tup (ws := [5, 6]) (bs_cons (bind_name 5) (bs_cons (bind_name 6) bs_nil))) ?_)
  refine s_cons (s_forT (xs := ns.zipIdx) (g := fun p => .tup [.int p.2, .str p.1]) po ?_ (fun p δ' I' => I' = I.and J ∧ ∃ cs b o7 o8, walkO t hs 0 (p.map (·.1)) (st0 t) = .inl (cs, b) ∧ cs.length = t.length ∧ δ' = [some (cD K t), some d, some (.tup (hs.map pairD)), some (.bl wh), some (.adr x), some (csD cs), some (.str b), o7, o8]) ⟨rfl, (st0 t).1, (st0 t).2, none, none, rfl, by unfold st0; simp, rfl⟩ ?_ ?_)
  · rw [← enumD_map]
    rcases hd with rfl | rfl
    · exact vi_enumL E.b_enumerate (pv_v (d := .lst (ns.map D.str)) 1)
    · exact vi_enumT E.b_enumerate (pv_v (d := .tup (ns.map D.str)) 1)
  · rintro p ⟨n, i⟩ r δ' I' e ⟨rfl, cs, b, o7, o8, hw, hl, rfl⟩
    have ens : ns = p.map (·.1) ++ n :: r.map (·.1) := by
      have := congrArg (List.map (·.1)) e
      rw [List.zipIdx_map_fst] at this
      simpa using this
    have ei : i = (p.map (·.1)).length := by
      have h1 : ns.zipIdx[p.length]? = some (n, i) := by rw [e]; simp
      rw [List.getElem?_zipIdx] at h1
      rw [List.length_map]
      cases h2 : ns[p.length]? with
      | none => rw [h2] at h1; cases h1
      | some m => rw [h2] at h1; simp at h1; omega
    refine ⟨_, [7, 8], bind_tup (bs_cons (bind_name 7) (bs_cons (bind_name 8) bs_nil)), ?_⟩
    have hck : n ∉ readyS t cs b → checkO t hs ns wh = some i := fun hn => by
      unfold checkO
      rw [ens, walk_app _ _ _ _ _ hw]
      have e3 : walkO t hs (0 + (p.map (·.1)).length) (n :: r.map (·.1)) (cs, b) = .inr (0 + (p.map (·.1)).length) := by
        show (if n ∈ readyS t cs b then _ else _) = _
        rw [if_neg hn]
      rw [e3, Nat.zero_add, ← ei]
    refine s_cons (s_ifP (PVT.is (c := !decide (n ∈ readyS t cs b)) (pt_nin hu65 (pv_v 8) (pv_ready E hr5 hco (pv_v 4) (pv_v 5) (pv_v 6) o hl) (allStr_map _)) (by rw [strIn_map])) (fun hn => ?_) fun hn => s_nil ?_)
    · have hn : n ∉ readyS t cs b := by simpa using hn
      rw [hck hn] at q
      exact SX.drop (s_one (s_rz (hr := hr2) tk E.x_WrongOrder E.ini_WrongOrder (ea_cons ((pv_v 7).ev (ea_nil ⟨rfl, by simp, q⟩)))))
    · have hn : n ∈ readyS t cs b := by simpa using hn
      refine s_one (s_asgP (pv_after E hr1 hco (pv_v 4) (pv_v 5) (pv_v 8) o hl (ready_nm hn) hk) (bind_tup (ws := [5, 6]) (bs_cons (bind_name 5) (bs_cons (bind_name 6) bs_nil))) ?_)
      refine ⟨rfl, afterC t cs n, afterB t hs cs n, _, _, ?_, by rw [afterC_len]; exact hl, rfl⟩
      rw [List.map_append, walk_app _ _ _ _ _ hw]
      show (if n ∈ readyS t cs b then _ else _) = _
      rw [if_pos hn]; rfl
  · rintro δ' I' ⟨rfl, cs, b, o7, o8, hw, hl, rfl⟩
    rw [List.zipIdx_map_fst] at hw
    have hck : checkO t hs ns wh = if (wh && !decide (cs.sum = total t)) = true then some ns.length else none := by unfold checkO; rw [hw]
    rw [hck] at q
    refine s_cons (s_ifP (ptw (ww_and (pt_v (pv_v 3)) fun _ => ww_and1 (ptn (pt_v (pv_whole E hr3 hco (pv_v 4) (pv_v 5) o))))) (fun hn => ?_) fun hn => s_nil ?_)
    · rw [if_pos hn] at q
      refine SX.drop (s_one (s_rz (hr := hr2) tk E.x_WrongOrder E.ini_WrongOrder (ea_cons (PV.ev (d := .int ns.length) ?_ (ea_nil ⟨rfl, by simp, q⟩)))))
      rcases hd with rfl | rfl
      · exact (pv_len E.b_len (pv_w (d := .lst (ns.map D.str)) 1 rfl) trivial).is (by rw [List.length_map])
      · exact (pv_len E.b_len (pv_w (d := .tup (ns.map D.str)) 1 rfl) trivial).is (by rw [List.length_map])
    · rw [if_neg (by rw [hn]; exact Bool.false_ne_true)] at q
      exact SX.drop (s_one (s_retP (pv_tuple E.b_tuple (pv_v 1) (hd.elim .inl fun h => .inr (.inr h))) q))
end
end LK
set_option Elab.async false
set_option linter.all false
set_option maxRecDepth 100000
set_option maxHeartbeats 1000000
namespace LK
open PySem PySem.Spec PyProof.Rows L2 DL
/-! ### how many orders go on -/
def cntS (t : Tb) (hs : List (Str × Nat)) : Nat → List Nat → Str → Nat
  | 0, cs, _ => if cs.sum = total t then 1 else 0
  | n + 1, cs, b => if cs.sum = total t then 1 else ((readyS t cs b).map fun m => cntS t hs n (afterC t cs m) (afterB t hs cs m)).sum
def cnt (t : Tb) (hs : List (Str × Nat)) (cs : List Nat) (b : Str) : Nat := cntS t hs (total t - cs.sum) cs b
/-- a state that can come -/
structure VS (t : Tb) (cs : List Nat) (b : Str) : Prop where
  len : cs.length = t.length
  le : ∀ i p, t[i]? = some p → cAt cs i ≤ p.2.length
  bd : b = "" ∨ b ∈ nmT t
def keyOf (cs : List Nat) (b : Str) : NestedKey := .tup [.tup (cs.map fun n : Nat => .num n), .text b]
theorem keyNs_nums (cs : List Nat) : keyNs (cs.map fun n : Nat => .num n) = cs.map fun n : Nat => D.int n := by
  induction cs with
  | nil => rfl
  | cons c cs ih => show keyN (.num c) :: keyNs _ = _; rw [ih]; rfl
theorem keyD_of (cs : List Nat) (b : Str) : D.tup (keyNs [.tup (cs.map fun n : Nat => .num n), .text b]) = .tup [csD cs, .str b] := by
  show D.tup [.tup (keyNs _), .str b] = _
  rw [keyNs_nums]; rfl
theorem keyOf_inj {cs ds : List Nat} {b e : Str} (h : keyOf cs b = keyOf ds e) : cs = ds ∧ b = e := by
  unfold keyOf at h
  injection h with h
  injection h with h1 h2
  injection h1 with h1
  injection h2 with h2
  injection h2 with h2
  refine ⟨?_, h2⟩
  clear h2
  induction cs generalizing ds with
  | nil => cases ds with
    | nil => rfl
    | cons _ _ => cases h1
  | cons c cs ih => cases ds with
    | nil => cases h1
    | cons d ds =>
      injection h1 with h3 h4
      injection h3 with h3
      rw [ih h4]
      congr 1; omega
theorem depth_nums (cs : List Nat) : NestedKey.depthAll (cs.map fun n : Nat => .num n) = 0 := by
  induction cs with
  | nil => rfl
  | cons c cs ih => show max (NestedKey.depth (.num c)) (NestedKey.depthAll _) = 0; rw [ih]; rfl
theorem key_depth (cs : List Nat) (b : Str) : (NestedKey.tup [.tup (cs.map fun n : Nat => .num n), .text b]).depth ≤ 8 := by
  show NestedKey.depthAll [.tup (cs.map fun n : Nat => .num n), .text b] + 1 ≤ 8
  show max (NestedKey.depthAll (cs.map fun n : Nat => .num n) + 1) (max 0 0) + 1 ≤ 8
  rw [depth_nums]; decide
structure MemoOk (t : Tb) (hs : List (Str × Nat)) (kds : List (NestedKey × D)) : Prop where
  nd : (kds.map (·.1)).Nodup
  at_ : ∀ p ∈ kds, ∃ cs b, VS t cs b ∧ p = (keyOf cs b, .int (cnt t hs cs b))
/-- only later states came in -/
def Grow (kds kds' : List (NestedKey × D)) (m : Nat) : Prop := ∀ p ∈ kds', p ∈ kds ∨ ∃ cs b, p.1 = keyOf cs b ∧ m ≤ cs.sum
/-! the numbers -/
theorem sum_le_rows : ∀ (cs rs : List Nat), cs.length = rs.length → (∀ (i : Nat) (c r : Nat), cs[i]? = some c → rs[i]? = some r → c ≤ r) → cs.sum ≤ rs.sum
  | [], [], _, _ => Nat.le_refl _
  | c :: cs, r :: rs, hl, h => by
    rw [List.sum_cons, List.sum_cons]
    have h1 := h 0 c r rfl rfl
    have h2 := sum_le_rows cs rs (by simpa using hl) fun i c r hc hr => h (i + 1) c r (by simpa using hc) (by simpa using hr)
    omega
  | [], _ :: _, hl, _ => by simp at hl
  | _ :: _, [], hl, _ => by simp at hl
theorem sum_set1 : ∀ (cs : List Nat) (i : Nat), i < cs.length → (cs.set i (cAt cs i + 1)).sum = cs.sum + 1
  | c :: cs, 0, _ => by
    show (c + 1) + cs.sum = c + cs.sum + 1
    omega
  | c :: cs, i + 1, h => by
    have ih := sum_set1 cs i (by simpa using h)
    have e : cAt (c :: cs) (i + 1) = cAt cs i := by unfold cAt; simp
    rw [e]
    show c + (cs.set i (cAt cs i + 1)).sum = c + cs.sum + 1
    omega
theorem VS.sum {t : Tb} {cs : List Nat} {b : Str} (v : VS t cs b) : cs.sum ≤ total t := by
  unfold total
  refine sum_le_rows cs _ (by rw [List.length_map]; exact v.len) fun i c r hc hr => ?_
  rw [List.getElem?_map] at hr
  cases e : t[i]? with
  | none => rw [e] at hr; cases hr
  | some p =>
    rw [e] at hr
    have := v.le i p e
    unfold cAt at this
    rw [hc] at this
    cases hr
    exact this
theorem VS.start (t : Tb) : VS t (st0 t).1 (st0 t).2 := by
  refine ⟨by unfold st0; simp, fun i p hp => ?_, .inl rfl⟩
  unfold st0 cAt
  show ((List.replicate t.length 0)[i]?).getD 0 ≤ _
  rw [List.getElem?_replicate]
  split <;> simp
theorem ready_at {t : Tb} (o : TbOk t) {cs : List Nat} {b m : Str} (hm : m ∈ readyS t cs b) : ∃ i p, t[i]? = some p ∧ p.1 = m ∧ (nmT t).idxOf m = i ∧ cAt cs i < p.2.length := by
  unfold readyS at hm
  obtain ⟨h, _⟩ := List.mem_filter.mp hm
  obtain ⟨⟨n, i⟩, hp, rfl⟩ := List.mem_map.mp h
  obtain ⟨hz, hc⟩ := List.mem_filter.mp hp
  have hg := mem_zipIdx hz
  have hg2 := hg
  rw [List.getElem?_map] at hg
  cases e : t[i]? with
  | none => rw [e] at hg; cases hg
  | some p =>
    rw [e] at hg
    have en : p.1 = n := Option.some.inj hg
    refine ⟨i, p, e, en, ?_, ?_⟩
    · have hl := (List.getElem?_eq_some_iff.mp hg2).1
      have hv := (List.getElem?_eq_some_iff.mp hg2).2
      have nd : (nmT t).Nodup := o.nd
      have hi := List.idxOf_lt_length_of_mem (List.mem_of_getElem? hg2)
      have e2 : (nmT t)[(nmT t).idxOf n] = n := List.getElem_idxOf hi
      exact (List.getElem_inj nd).mp (e2.trans hv.symm)
    · have hw : rowOf t n = some p.2 := by rw [← en]; exact rowOf_some o.nd (List.mem_of_getElem? e)
      have hc : decide (cAt cs i < ((rowOf t n).getD []).length) = true := hc
      rw [hw] at hc
      exact of_decide_eq_true hc
theorem VS.after {t : Tb} (o : TbOk t) {hs : List (Str × Nat)} {cs : List Nat} {b m : Str} (v : VS t cs b) (hm : m ∈ readyS t cs b) : VS t (afterC t cs m) (afterB t hs cs m) ∧ (afterC t cs m).sum = cs.sum + 1 := by
  obtain ⟨i, p, hp, e1, e2, hlt⟩ := ready_at o hm
  have hi : i < cs.length := by rw [v.len]; exact (List.getElem?_eq_some_iff.mp hp).1
  unfold afterC
  rw [e2]
  refine ⟨⟨by rw [List.length_set]; exact v.len, fun j r hr => ?_, ?_⟩, sum_set1 cs i hi⟩
  · unfold cAt
    rw [List.getElem?_set]
    by_cases hj : i = j
    · subst hj
      rw [if_pos rfl, if_pos hi]
      rw [hp] at hr
      cases hr
      exact hlt
    · rw [if_neg hj]
      exact v.le j r hr
  · unfold afterB
    split
    · exact .inr (ready_nm hm)
    · exact .inl rfl
theorem cnt_whole {t : Tb} {hs : List (Str × Nat)} {cs : List Nat} {b : Str} (h : cs.sum = total t) : cnt t hs cs b = 1 := by
  unfold cnt
  rw [h, Nat.sub_self]
  show (if cs.sum = total t then 1 else 0) = 1
  rw [if_pos h]
theorem cnt_step {t : Tb} (o : TbOk t) {hs : List (Str × Nat)} {cs : List Nat} {b : Str} (v : VS t cs b) (h : cs.sum ≠ total t) : cnt t hs cs b = ((readyS t cs b).map fun m => cnt t hs (afterC t cs m) (afterB t hs cs m)).sum := by
  have hs' := v.sum
  obtain ⟨n, hn⟩ : ∃ n, total t - cs.sum = n + 1 := ⟨total t - cs.sum - 1, by omega⟩
  unfold cnt
  rw [hn]
  show (if cs.sum = total t then 1 else _) = _
  rw [if_neg h]
  refine congrArg List.sum (List.map_congr_left fun m hm => ?_)
  have h2 := (v.after o (hs := hs) hm).2
  rw [h2, show total t - (cs.sum + 1) = n by omega]
/-! how many states there are -/
theorem nodup_len {α : Type} : ∀ {l m : List α}, l.Nodup → (∀ x ∈ l, x ∈ m) → l.length ≤ m.length
  | [], _, _, _ => Nat.zero_le _
  | x :: l, m, nd, h => by
    classical
    obtain ⟨h1, h2⟩ := List.nodup_cons.mp nd
    have hx := h x (by simp)
    have h3 := nodup_len (l := l) (m := m.erase x) h2 fun y hy => (List.mem_erase_of_ne (fun e => h1 (by rw [← e]; exact hy))).mpr (h y (by simp [hy]))
    have h4 := List.length_erase_of_mem hx
    have h5 := List.length_pos_of_mem hx
    rw [List.length_cons]; omega
def allCs : List Nat → List (List Nat)
  | [] => [[]]
  | r :: rs => (List.range (r + 1)).flatMap fun k => (allCs rs).map (k :: ·)
theorem allCs_mem : ∀ (cs rs : List Nat), cs.length = rs.length → (∀ (i : Nat) (c r : Nat), cs[i]? = some c → rs[i]? = some r → c ≤ r) → cs ∈ allCs rs
  | [], [], _, _ => by simp [allCs]
  | c :: cs, r :: rs, hl, h => by
    have h1 := h 0 c r rfl rfl
    have h2 := allCs_mem cs rs (by simpa using hl) fun i c r hc hr => h (i + 1) c r (by simpa using hc) (by simpa using hr)
    exact List.mem_flatMap.mpr ⟨c, List.mem_range.mpr (by omega), List.mem_map.mpr ⟨cs, h2, rfl⟩⟩
  | [], _ :: _, hl, _ => by simp at hl
  | _ :: _, [], hl, _ => by simp at hl
theorem sum_const {α : Type} (n : Nat) : ∀ l : List α, (l.map fun _ => n).sum = l.length * n
  | [] => by simp
  | _ :: l => by rw [List.map_cons, List.sum_cons, sum_const n l, List.length_cons, Nat.succ_mul]; omega
theorem allCs_len : ∀ (rs : List Nat), (∀ r ∈ rs, r ≤ 3) → (allCs rs).length ≤ 4 ^ rs.length
  | [], _ => Nat.le_refl _
  | r :: rs, h => by
    have h1 := h r (by simp)
    have h2 := allCs_len rs fun r hr => h r (by simp [hr])
    show ((List.range (r + 1)).flatMap fun k => (allCs rs).map (k :: ·)).length ≤ 4 ^ (rs.length + 1)
    have e : ((List.range (r + 1)).flatMap fun k => (allCs rs).map (k :: ·)).length = (r + 1) * (allCs rs).length := by
      rw [List.length_flatMap]
      simp only [List.length_map]
      rw [sum_const, List.length_range]
    rw [e, Nat.pow_succ, Nat.mul_comm (4 ^ rs.length)]
    exact Nat.mul_le_mul (by omega) h2
structure Small (t : Tb) : Prop where
  s : ∀ p ∈ t, p.2.length ≤ 3
theorem MemoOk.len {t : Tb} (o : TbOk t) (sm : Small t) {hs : List (Str × Nat)} {kds : List (NestedKey × D)} (h : MemoOk t hs kds) : kds.length < 100000 := by
  have h1 : kds.length ≤ ((allCs (t.map fun p => p.2.length)).flatMap fun cs => ((("" : Str)) :: nmT t).map (keyOf cs)).length := by
    have := nodup_len (l := kds.map (·.1)) (m := (allCs (t.map fun p => p.2.length)).flatMap fun cs => ((("" : Str)) :: nmT t).map (keyOf cs)) h.nd fun k hk => by
      obtain ⟨p, hp, rfl⟩ := List.mem_map.mp hk
      obtain ⟨cs, b, v, e⟩ := h.at_ p hp
      rw [e]
      refine List.mem_flatMap.mpr ⟨cs, allCs_mem cs _ (by rw [List.length_map]; exact v.len) fun i c r hc hr => ?_, List.mem_map.mpr ⟨b, ?_, rfl⟩⟩
      · rw [List.getElem?_map] at hr
        cases e2 : t[i]? with
        | none => rw [e2] at hr; cases hr
        | some p =>
          rw [e2] at hr
          have := v.le i p e2
          unfold cAt at this
          rw [hc] at this
          cases hr
          exact this
      · rcases v.bd with hb | hb
        · rw [hb]; simp
        · exact List.mem_cons_of_mem _ hb
    rwa [List.length_map] at this
  have h2 : ((allCs (t.map fun p => p.2.length)).flatMap fun cs => ((("" : Str)) :: nmT t).map (keyOf cs)).length = (allCs (t.map fun p => p.2.length)).length * (t.length + 1) := by
    rw [List.length_flatMap]
    simp only [List.length_map, List.length_cons]
    rw [sum_const]
  have h3 := allCs_len (t.map fun p => p.2.length) fun r hr => by
    obtain ⟨p, hp, rfl⟩ := List.mem_map.mp hr
    exact sm.s p hp
  rw [List.length_map] at h3
  have h4 : 4 ^ t.length ≤ 4 ^ 6 := Nat.pow_le_pow_right (by decide) o.m
  have h5 := o.m
  have h6 : (allCs (t.map fun p => p.2.length)).length * (t.length + 1) ≤ 4096 * 7 := Nat.mul_le_mul (Nat.le_trans h3 (Nat.le_trans h4 (by decide))) (by omega)
  rw [h2] at h1
  omega
end LK
set_option Elab.async false
set_option linter.all false
set_option maxRecDepth 100000
set_option maxHeartbeats 1000000
namespace LK
open PySem PySem.Spec PyProof.Rows L2 DL
/-- a course with what it remembers -/
def iCM (P : Program) (w : World) (K : PySem.W.Frag) (x dx q : Addr) (t : Tb) (hs : List (Str × Nat)) (kds : List (NestedKey × D)) : Iv K := (iIns K x (cO K) dx (coF K t hs q)).and (iMemo P w K q kds)
section
variable {P : Program} {w : World} {K : PySem.W.Frag} {c : Rc K} {x dx q : Addr} {t : Tb} {hs : List (Str × Nat)} {kds : List (NestedKey × D)}
theorem icm_ins : c.fill (iCM P w K x dx q t hs kds) = (c.comp (.l .here (iMemo P w K q kds))).fill (iIns K x (cO K) dx (coF K t hs q)) := (fill_comp (I := iIns K x (cO K) dx (coF K t hs q)) (.l .here (iMemo P w K q kds)) c).symm
theorem icm_memo : c.fill (iCM P w K x dx q t hs kds) = (c.comp (.r (iIns K x (cO K) dx (coF K t hs q)) .here)).fill (iMemo P w K q kds) := (fill_comp (I := iMemo P w K q kds) (.r (iIns K x (cO K) dx (coF K t hs q)) .here) c).symm
theorem icm_coi : CoI (c.fill (iCM P w K x dx q t hs kds)) x t hs := ⟨_, dx, q, icm_ins⟩
end
def sCount (P : Program) (w : World) {K : PySem.W.Frag} (n : Nat) : Spec K := fun I ds PP _ => ∃ (c : Rc K) (x dx q : Addr) (t : Tb) (hs : List (Str × Nat)) (kds : List (NestedKey × D)) (cs : List Nat) (b : Str), ds = [.adr x, csD cs, .str b] ∧ I = c.fill (iCM P w K x dx q t hs kds) ∧ TbOk t ∧ Small t ∧ (∀ g ∈ hs, PyData.strOk g.1 = true) ∧ MemoOk t hs kds ∧ VS t cs b ∧ total t - cs.sum ≤ n ∧
  ∀ kds', MemoOk t hs kds' → Grow kds kds' cs.sum → PP (.int (cnt t hs cs b)) (c.fill (iCM P w K x dx q t hs kds'))
theorem getN_mem {kds : List (NestedKey × D)} {k : NestedKey} {d : D} (h : getN kds k = some d) : (k, d) ∈ kds := by
  unfold getN at h
  cases e : kds.find? fun p => decide (p.1 = k) with
  | none => rw [e] at h; cases h
  | some p =>
    rw [e] at h
    have h1 := List.mem_of_find?_eq_some e
    have h2 : p.1 = k := by simpa using List.find?_some e
    cases h
    rw [← h2]; exact h1
theorem getN_none {kds : List (NestedKey × D)} {k : NestedKey} (h : ∀ p ∈ kds, p.1 ≠ k) : getN kds k = none := by
  unfold getN
  rw [Option.map_eq_none_iff, List.find?_eq_none]
  intro p hp
  simpa using h p hp
theorem getN_not {kds : List (NestedKey × D)} {k : NestedKey} (h : getN kds k = none) : ∀ p ∈ kds, p.1 ≠ k := by
  unfold getN at h
  rw [Option.map_eq_none_iff, List.find?_eq_none] at h
  intro p hp e
  exact h p hp (by simpa using e)
theorem getN_app {kds : List (NestedKey × D)} {k : NestedKey} {d : D} (h : getN kds k = none) : getN (kds ++ [(k, d)]) k = some d := by
  unfold getN at h ⊢
  rw [Option.map_eq_none_iff] at h
  rw [List.find?_append, h]
  simp
theorem Grow.refl (kds : List (NestedKey × D)) (m : Nat) : Grow kds kds m := fun _ h => .inl h
theorem Grow.trans {a b c : List (NestedKey × D)} {m n : Nat} (h1 : Grow a b m) (h2 : Grow b c n) (hn : m ≤ n) : Grow a c m := fun p hp => by
  rcases h2 p hp with h | ⟨cs, b, e, hl⟩
  · exact h1 p h
  · exact .inr ⟨cs, b, e, by omega⟩
theorem Grow.weak {a b : List (NestedKey × D)} {m n : Nat} (h : Grow a b n) (hn : m ≤ n) : Grow a b m := fun p hp => (h p hp).imp id fun ⟨cs, b, e, hl⟩ => ⟨cs, b, e, by omega⟩
theorem MemoOk.val {t : Tb} {hs : List (Str × Nat)} {kds : List (NestedKey × D)} (h : MemoOk t hs kds) {cs : List Nat} {b : Str} {d : D} (hd : getN kds (keyOf cs b) = some d) : d = .int (cnt t hs cs b) := by
  obtain ⟨cs', b', _, e⟩ := h.at_ _ (getN_mem hd)
  obtain ⟨e1, e2⟩ := keyOf_inj (Prod.mk.inj e).1
  rw [(Prod.mk.inj e).2, e1, e2]
theorem MemoOk.add {t : Tb} {hs : List (Str × Nat)} {kds : List (NestedKey × D)} (h : MemoOk t hs kds) {cs : List Nat} {b : Str} (v : VS t cs b) (hn : getN kds (keyOf cs b) = none) : MemoOk t hs (kds ++ [(keyOf cs b, .int (cnt t hs cs b))]) := by
  refine ⟨?_, fun p hp => ?_⟩
  · rw [List.map_append, List.nodup_append]
    refine ⟨h.nd, by simp, ?_⟩
    intro k hk k' hk' e
    obtain ⟨p, hp, rfl⟩ := List.mem_map.mp hk
    simp only [List.map_cons, List.map_nil, List.mem_singleton] at hk'
    exact getN_not hn p hp (e.trans hk')
  · rcases List.mem_append.mp hp with hp | hp
    · exact h.at_ p hp
    · exact ⟨cs, b, v, List.mem_singleton.mp hp⟩
section
variable {P : Program} {w : World} {K : PySem.W.Frag} {mg : Str → Option Value} {base : Heap}
theorem M_count (E : Env P w K mg base) : ∀ n : Nat, FnR P w K mg base (L2.CX P w) (6 + n) (He.ma K (cO K) "count_from") (spD K (sCount P w n)) := by
  intro n
  induction n with
  | zero =>
    exact mk_m_Course_count_from E fun fd F => by
      refine fn_d F sc_m_Course_count_from (fun I ds P R h => by obtain ⟨c, x, dx, q, t, hs, kds, cs, b, rfl, _⟩ := h; rfl) fun cdv A outer s H EE hr tk po I ds Q R h => ?_
      obtain ⟨c, x, dx, mq, t, hs, kds, cs, b, rfl, rfl, o, sm, hk, mo, v, hn, q⟩ := h
      have hr3 : Room 3 _ := hr.mono (by omega)
      have hw : cs.sum = total t := by have := v.sum; omega
      rw [cnt_whole hw] at q
      refine s_cons (s_ifT (PVT.is (pt_v (pv_whole E hr3 icm_coi (pv_v 0) (pv_v (d := csD cs) 1) o)) (decide_eq_true hw)) (s_one (s_retP pv_int (q kds mo (.refl _ _)))))
  | succ n ih =>
    exact mk_m_Course_count_from E fun fd F => by
      refine fn_d F sc_m_Course_count_from (fun I ds P R h => by obtain ⟨c, x, dx, q, t, hs, kds, cs, b, rfl, _⟩ := h; rfl) fun cdv A outer s H EE hr tk po I ds Q R h => ?_
      obtain ⟨c, x, dx, mq, t, hs, kds, cs, b, rfl, rfl, o, sm, hk, mo, v, hn, q⟩ := h
      have nd := sc_m_Course_count_from.nd
      have hu := hr.units
      have hrn : Room (6 + n) _ := hr
      have hr1 : Room 1 _ := hrn.mono (by omega)
      have hr3 : Room 3 _ := hrn.mono (by omega)
      have hr5 : Room 5 _ := hrn.mono (by omega)
      refine s_cons (s_ifP (pt_v (pv_whole E hr3 icm_coi (pv_v 0) (pv_v (d := csD cs) 1) o)) (fun hw => ?_) fun hw => s_nil ?_)
      · rw [cnt_whole (of_decide_eq_true hw)] at q
        exact s_one (s_retP pv_int (q kds mo (.refl _ _)))
      have hw : cs.sum ≠ total t := of_decide_eq_false hw
      refine s_cons (s_setP (d := .tup [csD cs, .str b]) 3 (pv_tup (va_cons (pv_v (d := csD cs) 1) (va_cons (pv_v 2) va_nil))) ?_)
      have hkey : ∀ {I : Iv K} {δ : DEnv} {p1 : Pos}, δ[3]? = some (some (.tup [csD cs, .str b])) → PV (cxOf (L2.CX P w) P w K mg base ["self", "counts", "bound", "key", "found", "name", "later"] "Course.count_from" (defScope m_Course_count_from) (He.ma K (cO K) "count_from") cdv A outer s H EE) I (.Name "key" p1) δ (.tup (keyNs [.tup (cs.map fun n : Nat => .num n), .text b])) := fun hd => PV.is (pv_v (d := .tup [csD cs, .str b]) 3 hd) (keyD_of cs b).symm
      refine s_cons (s_joint (fun δ' I' => ∃ kds' o4 o5 o6, MemoOk t hs kds' ∧ Grow kds kds' cs.sum ∧ getN kds' (keyOf cs b) = some (.int (cnt t hs cs b)) ∧ I' = c.fill (iCM P w K x dx mq t hs kds') ∧ δ' = [some (.adr x), some (csD cs), some (.str b), some (.tup [csD cs, .str b]), o4, o5, o6]) (s_ifP (pt_memoNot hu _ (hkey rfl) (pv_fld _ E.l_Course E.a_Course_many (pv_v 0) rfl (eI := icm_ins)) (key_depth cs b) icm_memo) (fun hm => ?_) fun hm => s_nil ?_) ?_)
      · have hm : getN kds (keyOf cs b) = none := by
          unfold keyOf
          simpa using hm
        refine s_cons (s_setP 4 pv_int ?_)
        refine s_cons (s_forT (xs := readyS t cs b) (g := D.str) po (vi_lst (pv_ready E hr5 icm_coi (pv_v 0) (pv_v (d := csD cs) 1) (pv_v 2) o v.len)) (fun p δ' I' => ∃ kds' o5 o6, MemoOk t hs kds' ∧ Grow kds kds' (cs.sum + 1) ∧ I' = c.fill (iCM P w K x dx mq t hs kds') ∧ δ' = [some (.adr x), some (csD cs), some (.str b), some (.tup [csD cs, .str b]), some (.int ((p.map fun m => cnt t hs (afterC t cs m) (afterB t hs cs m)).sum : Nat)), o5, o6]) ⟨kds, none, none, mo, .refl _ _, rfl, rfl⟩ ?_ ?_)
        · rintro p y r δ' I' e ⟨kds', o5, o6, mo', gr', rfl, rfl⟩
          have hy : y ∈ readyS t cs b := by rw [e]; simp
          obtain ⟨v2, s2⟩ := v.after o (hs := hs) hy
          refine ⟨_, [5], bind_name 5, ?_⟩
          refine s_cons (s_setP (d := .tup [csD (afterC t cs y), .str (afterB t hs cs y)]) 6 (pv_after E hr1 icm_coi (pv_v 0) (pv_v (d := csD cs) 1) (pv_v 5) o v.len (ready_nm hy) hk) ?_)
          refine s_one (s_augE 4 rfl (ev_methA tk (E_plgO E) E.h_Course_count_from.f E.h_Course_count_from.i E.h_Course_count_from.k ih hrn (PV.ev (pv_v 0) ⟨icm_coi.ins, ea_cons (PV.ev (pv_ix ix_tup (pv_w (d := .tup [csD (afterC t cs y), .str (afterB t hs cs y)]) 6 rfl) pv_int (p2_ixT rfl)) (ea_cons (PV.ev (pv_ix ix_tup (pv_w (d := .tup [csD (afterC t cs y), .str (afterB t hs cs y)]) 6 rfl) pv_int (p2_ixT rfl)) (ea_nil ⟨c, x, dx, mq, t, hs, kds', afterC t cs y, afterB t hs cs y, rfl, rfl, o, sm, hk, mo', v2, by omega, fun kds2 m2 g2 => ⟨_, rfl, ?_⟩⟩))))⟩)))
          refine ⟨kds2, some (.str y), some (.tup [csD (afterC t cs y), .str (afterB t hs cs y)]), m2, gr'.trans g2 (by omega), rfl, ?_⟩
          have e4 : (((p ++ [y]).map fun m => cnt t hs (afterC t cs m) (afterB t hs cs m)).sum : Nat) = (p.map fun m => cnt t hs (afterC t cs m) (afterB t hs cs m)).sum + cnt t hs (afterC t cs y) (afterB t hs cs y) := by
            rw [List.map_append, List.sum_append]; simp
          rw [e4]
          rfl
        · rintro δ' I' ⟨kds', o5, o6, mo', gr', rfl, rfl⟩
          rw [← cnt_step o v hw]
          have hn2 : getN kds' (keyOf cs b) = none := getN_none fun p hp e => by
            rcases gr' p hp with h | ⟨cs', b', e2, hl⟩
            · exact getN_not hm p h e
            · have := (keyOf_inj (e.symm.trans e2)).1
              rw [← this] at hl
              omega
          refine s_one (s_memoPut hu _ (pv_v 4) (pv_fld _ E.l_Course E.a_Course_many (pv_v 0) rfl (eI := icm_ins)) (hkey rfl) (key_depth cs b) hn2 (mo'.len o sm) ?_ icm_memo)
          refine ⟨kds' ++ [(keyOf cs b, .int (cnt t hs cs b))], _, _, _, mo'.add v hn2, fun p hp => ?_, getN_app hn2, icm_memo.symm, rfl⟩
          rcases List.mem_append.mp hp with hp | hp
          · exact gr'.weak (by omega) p hp
          · rw [List.mem_singleton.mp hp]
            exact .inr ⟨cs, b, rfl, Nat.le_refl _⟩
      · have hm : (getN kds (keyOf cs b)).isSome = true := by
          unfold keyOf
          simpa using hm
        obtain ⟨d, hd⟩ := Option.isSome_iff_exists.mp hm
        have e := mo.val hd
        rw [e] at hd
        exact ⟨kds, none, none, none, mo, .refl _ _, hd, rfl, rfl⟩
      · rintro δ' I' ⟨kds', o4, o5, o6, mo', gr', hg, rfl, rfl⟩
        exact s_one (s_retP (pv_memoGet hu _ (pv_fld _ E.l_Course E.a_Course_many (pv_v 0) rfl (eI := icm_ins)) (hkey rfl) (key_depth cs b) hg icm_memo) (q kds' mo' gr'))
end
end LK
set_option Elab.async false
set_option linter.all false
set_option maxRecDepth 100000
set_option maxHeartbeats 1000000
namespace LK
open PySem PySem.Spec PyProof.Rows L2 DL
/-! ### holds, looked at -/
theorem gaps_len' {t : Tb} (o : TbOk t) : (gapsT t).length ≤ 48 := sum_flat gapsR_len o (p := t) (r := []) (by simp)
def holdsN (t : Tb) (l : List (Str × Nat)) : List (Str × Nat) := (gapsT t).filter fun g => decide (g ∈ l)
def sIsInt {K : PySem.W.Frag} : Spec K := fun I ds P _ => ∃ n : Int, ds = [.int n] ∧ P (.bl true) I
def sIsPair {K : PySem.W.Frag} : Spec K := fun I ds P _ => ∃ q, ds = [pairD q] ∧ P (.bl true) I
def sHolds {K : PySem.W.Frag} : Spec K := fun I ds P _ => ∃ t l d, ds = [cD K t, d] ∧ (d = .lst (l.map pairD) ∨ d = .tup (l.map pairD)) ∧ TbOk t ∧ (∀ g ∈ l, g ∈ gapsT t) ∧ l.length ≤ 1000 ∧ P (.tup ((holdsN t l).map pairD)) I
section
variable {P : Program} {w : World} {K : PySem.W.Frag} {mg : Str → Option Value} {base : Heap}
theorem D_is_integer (E : Env P w K mg base) : Def P w K mg base "is_integer" 1 ["value"] [] sIsInt := mk_f_is_integer E fun fd F => by
  refine fn_d F sc_f_is_integer (fun I ds P R h => by obtain ⟨n, rfl, _⟩ := h; rfl) fun cdv A outer s H EE hr tk po I ds Q R h => ?_
  obtain ⟨n, rfl, q⟩ := h
  exact s_one (s_retP (pv_andT (pv_cb call_isi E.b_isinstance (va_cons (pv_v 0) (va_cons (pv_gty (n := "int") E.b_int) va_nil)) (pn_isiT (t := "int") rfl)) (pv_one (pv_not (k := false) (pv_cb call_isi E.b_isinstance (va_cons (pv_v 0) (va_cons (pv_gty (n := "bool") E.b_bool) va_nil)) (pn_isiF (t := "int") rfl (by decide +kernel)))))) q)
theorem D_is_pair (E : Env P w K mg base) : Def P w K mg base "is_pair" 2 ["value"] [] sIsPair := mk_f_is_pair E fun fd F => by
  refine fn_d F sc_f_is_pair (fun I ds P R h => by obtain ⟨n, rfl, _⟩ := h; rfl) fun cdv A outer s H EE hr tk po I ds Q R h => ?_
  obtain ⟨g, rfl, q⟩ := h
  have hu := hr.units
  have hr1 : Room 1 _ := hr
  refine s_one (s_retP (pv_andT (pv_cb call_isi E.b_isinstance (va_cons (pv_v (d := pairD g) 0) (va_cons (pv_gty (n := "tuple") E.b_tuple) va_nil)) (pn_isiT (t := "tuple") rfl)) (pv_andT (PV.is (pv_eq hu (pv_len E.b_len (pv_w (d := .tup [.str g.1, .int g.2]) 0 rfl) trivial) pv_int trivial) rfl) (pv_andT (pv_cb call_isi E.b_isinstance (va_cons (pv_ix ix_tup (pv_w (d := .tup [.str g.1, .int g.2]) 0 rfl) pv_int (p2_ixT rfl)) (va_cons (pv_gty (n := "str") E.b_str) va_nil)) (pn_isiT (t := "str") rfl)) (pv_one (pv_def (D_is_integer E) hr1 (va_cons (pv_ix ix_tup (pv_w (d := .tup [.str g.1, .int g.2]) 0 rfl) pv_int (p2_ixT rfl)) va_nil) fun P pp => ⟨_, rfl, pp⟩))))) q)
theorem D_holds_of (E : Env P w K mg base) : Def P w K mg base "holds_of" 4 ["cast", "holds"] [] sHolds := mk_f_holds_of E fun fd F => by
  refine fn_d F sc_f_holds_of (fun I ds P R h => by obtain ⟨t, l, d, rfl, _⟩ := h; rfl) fun cdv A outer s H EE hr tk po I ds Q R h => ?_
  obtain ⟨t, l, d, rfl, hd, o, hl, hz, q⟩ := h
  have nd := sc_f_holds_of.nd
  have hu65 := hr.u65
  have hr2 : Room 2 _ := hr.mono (by decide)
  have hr3 : Room 3 _ := hr
  have hgl := gaps_len' o
  have hok : ∀ g ∈ l, PyData.strOk g.1 = true := fun g hg => o.gapOk g (hl g hg)
  refine s_cons (s_set 2 (ev_freezeL (ev_gaps E tk hr3 (pv_v (d := cD K t) 0) o fun a => ⟨a, _, _, rfl, rfl, ?_⟩)))
  refine s_cons (s_forT (xs := l) (g := pairD) po ?_ (fun p δ' I' => I' = I ∧ ∃ o3, δ' = [some (cD K t), some d, some (.lst ((gapsT t).map pairD)), o3]) ⟨rfl, none, rfl⟩ ?_ ?_)
  · rcases hd with rfl | rfl
    · exact vi_lst (pv_v (d := .lst (l.map pairD)) 1)
    · exact vi_tup (pv_v (d := .tup (l.map pairD)) 1)
  · rintro p g r δ' I' e ⟨rfl, o3, rfl⟩
    have hg : g ∈ l := by rw [e]; simp
    refine ⟨_, [3], bind_name 3, ?_⟩
    refine s_one (s_ifF (ptw (ww_orF (ptn (k := true) (pt_v (pv_def (D_is_pair E) hr2 (va_cons (pv_v (d := pairD g) 3) va_nil) fun P pp => ⟨g, rfl, pp⟩))) (ww_or1 (PVT.is (pt_nin hu65 (pv_w (d := .tup [.str g.1, .int g.2]) 3 rfl) (pv_w (d := .lst ((gapsT t).map pairD)) 2 rfl) ?_) ?_)))) (s_nil ⟨rfl, _, rfl⟩))
    · exact ⟨(okD_pair (q := g) (hok g hg)).mono (by decide), OkD.map fun q hq => (okD_pair (o.gapOk q hq)).mono (by decide)⟩
    · have := inj_pair.any g (gapsT t)
      rw [show (((gapsT t).map pairD).any fun y => eqD y (.tup [.str g.1, .int g.2])) = decide (g ∈ gapsT t) from this.trans (by congr), decide_eq_true (hl g hg)]; rfl
  · rintro δ' I' ⟨rfl, o3, rfl⟩
    refine s_one (s_ret (ev_tuple E.b_tuple (PV.ev (pv_lcT (xs := gapsT t) (g := pairD) pairD (fun g => decide (g ∈ l)) [("gap", 3)] (fun g => [some (cD K t), some d, some (.lst ((gapsT t).map pairD)), some (pairD g)]) (vi_lst (pv_v (d := .lst ((gapsT t).map pairD)) 2)) (by omega) (fun g s H C cl fp => bind_name 3) (fun g hg J s H C cl fp => ?_) fun g hg ht J s H C cl fp => pv_v (d := pairD g) 3) ⟨_, .inl rfl, q⟩)))
    have hk1 : OkD 64 (.tup [.str g.1, .int g.2]) := (okD_pair (q := g) (o.gapOk g hg)).mono (by decide)
    have hk2 : ∀ d ∈ l.map pairD, OkD 64 d := OkD.map fun q hq => (okD_pair (hok q hq)).mono (by decide)
    have e5 : ((l.map pairD).any fun y => eqD y (.tup [.str g.1, .int g.2])) = decide (g ∈ l) := (inj_pair.any g l).trans (by congr)
    rcases hd with rfl | rfl
    · exact PVT.is (pt_in hu65 (pv_w (d := .tup [.str g.1, .int g.2]) 3 rfl) (pv_w (d := .lst (l.map pairD)) 1 rfl) ⟨hk1, hk2⟩) e5
    · exact PVT.is (pt_in hu65 (pv_w (d := .tup [.str g.1, .int g.2]) 3 rfl) (pv_w (d := .tup (l.map pairD)) 1 rfl) ⟨hk1, hk2⟩) e5
end
end LK
set_option Elab.async false
set_option linter.all false
set_option maxRecDepth 100000
set_option maxHeartbeats 4000000
namespace DL
open PySem PySem.Spec PyProof.Rows L2
/-! ### is None -/
def nonB : D → Bool
  | .non => true
  | _ => false
theorem rep_non {K : PySem.W.Frag} {G : Hp} : ∀ {d : D} {v : V}, Rep K G d v → decide (v = .non) = nonB d
  | .non, _, h => by rw [show _ = V.non from h]; rfl
  | .bl _, _, h => by rw [show _ = V.bl _ from h]; rfl
  | .int _, _, h => by rw [show _ = V.int _ from h]; rfl
  | .str _, _, h => by rw [show _ = V.str _ from h]; rfl
  | .ty _, _, h => by rw [show _ = V.ty _ from h]; rfl
  | .adr _, _, h => by rw [show _ = V.ref _ from h]; rfl
  | .tup _, _, ⟨a, vs, h1, h2, h3⟩ => by rw [h1]; rfl
  | .lst _, _, ⟨a, vs, h1, h2, h3⟩ => by rw [h1]; rfl
  | .lsf _, _, ⟨a, vs, h1, h2, h3⟩ => by rw [h1]; rfl
  | .slo _ _, _, ⟨a, dx, vs, h1, h2, h3⟩ => by rw [h1]; rfl
  | .exc _ _ _ _ _, _, ⟨h1, vs, h2, h3⟩ => by rw [h1]; rfl
  | .dic _ _, _, ⟨a, od, vs, h1, h2, h4, h3⟩ => by rw [h1]; rfl
  | .tub _, _, ⟨a, od, vs, h1, h2, h4, h3⟩ => by rw [h1]; rfl
section
variable {X : Cx} {I : Iv X.K} {e : Expr} {δ : DEnv} {d : D} {pos p : Pos} {j : Nat}
theorem pv_isN (h : PV X I e δ d) : PV X I (.Compare e [.Is] [.Constant .none j p] pos) δ (.bl (nonB d)) :=
  pv_cmp op_isN h pv_non fun P pp G H v w Q s hI r1 r2 q => ⟨r2, by rw [rep_non r1]; exact q _ (.bl (nonB d)) G H I (Same.refl G) s hI rfl pp⟩
theorem pv_notN (h : PV X I e δ d) : PV X I (.Compare e [.IsNot] [.Constant .none j p] pos) δ (.bl (!nonB d)) :=
  pv_cmp op_notN h pv_non fun P pp G H v w Q s hI r1 r2 q => ⟨r2, by rw [rep_non r1]; exact q _ (.bl (!nonB d)) G H I (Same.refl G) s hI rfl pp⟩
end
end DL
set_option Elab.async false
set_option linter.all false
set_option maxRecDepth 100000
set_option maxHeartbeats 4000000
/-! tuple(list) with its object known; < of data -/
namespace L2
open PySem PySem.Spec PyProof.Rows
section
variable {X : Cx}
theorem call_tupleLB : CallR X (.type "tuple") (fun xs H Q => ∃ p ys, xs = [.ref p] ∧ SqL X.K H p ys ∧ ∀ l ob, H l = none → ob.dict = none → Q (.ref l) (upd H l (.frz ob (.tup ys)))) := by
  intro pins s σ H xs us Q I r h
  obtain ⟨p, ys, rfl, hq, q⟩ := h
  obtain ⟨u, rfl, rx⟩ := vals1 r
  cases rx
  obtain ⟨its, r', pl, hz⟩ := I.list hq
  have hlen := r'.length
  refine call_tuple_list pl.isList (fun h' kp => ?_) (by simp only [List.size_toArray] <;> omega)
  have I1 : Inv X pins σ H { s with heap := h' } := I.kept (t' := s.toks) kp
  have I2 : Inv X pins σ (upd H h'.objs.size (.frz { cls := .type "tuple", data := .seq its.toArray } (.tup ys))) { s with heap := h'.push { cls := .type "tuple", data := .seq its.toArray } } :=
    I1.laid (t' := s.toks) (fun b o e => Heap.get?_push_of_some _ e) (Nat.le_refl _) (show ObjOk X.prog X.w _ _ _ (.frz { cls := .type "tuple", data := .seq its.toArray } (.tup ys)) from ⟨Heap.get?_push_size _ rfl, hz, its, r', IsTup.new _ _⟩)
  exact ⟨.ref h'.objs.size, _, I2, rfl, q _ _ (I1.hok.fresh (Nat.le_refl _)) rfl⟩
/-- x < y of data that are alike -/
def rLtDT (K : PySem.W.Frag) : R2 := fun x y H Q => ∃ d e, Dp K H x d ∧ Dp K H y e ∧ PySem.W.alike d e = true ∧ d ≠ .none ∧ d.depth ≤ 32 ∧ Q (.bl (PySem.W.dataLt d e)) H
theorem op_ltDT (hu : X.A.units + 65 < cLine) : OpR X (compareOp .Lt) (rLtDT X.K) := by
  intro pins s σ H x y v u Q I rx ry h
  obtain ⟨d, e, hd, he, al, nn, dp, q⟩ := h
  obtain ⟨as, r1⟩ := Dp.reads I d x v hd rx
  obtain ⟨bs, r2⟩ := Dp.reads I e y u he ry
  exact PySem.W.lt_data r1 r2 al nn (by omega) ⟨.bl _, H, I, rfl, q⟩
end
end L2
namespace DL
open PySem PySem.Spec PyProof.Rows L2
section
variable {X : Cx} {W : WX} {R : Rx X.K} {a b e : Expr} {δ : DEnv} {I : Iv X.K} {P : D → Iv X.K → Prop} {pos p : Pos} {d x y : D} {ds : List D} {q : Addr}
theorem on_tupLB {K : PySem.W.Frag} {I : Iv K} {P : D → Iv K → Prop} (hd : d = .lst ds ∨ d = .lsf ds) (pp : P (.tub ds) I) : OpN K (fun xs H Q => ∃ p ys, xs = [.ref p] ∧ SqL K H p ys ∧ ∀ l ob, H l = none → ob.dict = none → Q (.ref l) (upd H l (.frz ob (.tup ys)))) [d] I P := fun G H vs Q s hI ⟨v, r, e1, e2, e3⟩ q => by
  rw [e1, show r = [] from e3]
  rcases hd with rfl | rfl
  · obtain ⟨a, xs, rfl, g2, g3⟩ := e2
    exact ⟨a, xs, rfl, SqL.of (s _ _ g2), fun l ob hl hob => q _ (.tub ds) _ _ I (Evl.Ex.new (s.free hl)) (same_upd2 s) (hI.keep hl s) (rep_frzB hl hob s g3) pp⟩
  · obtain ⟨a, xs, rfl, g2, g3⟩ := e2
    exact ⟨a, xs, rfl, sqL_mono s g2, fun l ob hl hob => q _ (.tub ds) _ _ I (Evl.Ex.new (s.free hl)) (same_upd2 s) (hI.keep hl s) (rep_frzB hl hob s g3) pp⟩
theorem ev_tupleB (hm : X.mg "tuple" = none) (h : EvX X W R e δ I fun d I1 => ∃ ds, (d = .lst ds ∨ d = .lsf ds) ∧ P (.tub ds) I1) (hg : Gl X "tuple" := by rfl)
    (he : starEach [e] X.env = (false, eval e X.env) :: starEach [] X.env := by rfl) (hpl : (backTo pos (starEach [] X.env)).any (·.1) = false := by rfl) : EvX X W R (.Call (.Name "tuple" p) [e] [] pos) δ I P :=
  ev_ct call_tupleLB hm (ea_cons (h.imp fun d I1 ⟨ds, hd, pp⟩ => ea_nil (on_tupLB hd pp)) he) (by decide +kernel) hg (by decide) (by decide) he hpl
theorem ev_tupleMB (c : Iv X.K) {q : Addr} (hm : X.mg "tuple" = none) (h : PV X I e δ (.adr q)) (eI : I = c.and (iLst X.K q ds)) (pp : P (.tub ds) c) (hg : Gl X "tuple" := by rfl)
    (he : starEach [e] X.env = (false, eval e X.env) :: starEach [] X.env := by rfl) (hpl : (backTo pos (starEach [] X.env)).any (·.1) = false := by rfl) : EvX X W R (.Call (.Name "tuple" p) [e] [] pos) δ I P :=
  ev_tupleB hm (ev_freezeL (h.ev ⟨q, ds, c, rfl, eI, ds, .inl rfl, pp⟩)) hg he hpl
theorem pv_tupleB (hm : X.mg "tuple" = none) (h : PV X I e δ d) (hd : d = .lst ds ∨ d = .lsf ds) (hg : Gl X "tuple" := by rfl)
    (he : starEach [e] X.env = (false, eval e X.env) :: starEach [] X.env := by rfl) (hpl : (backTo pos (starEach [] X.env)).any (·.1) = false := by rfl) : PV X I (.Call (.Name "tuple" p) [e] [] pos) δ (.tub ds) := fun W R P pp => ev_tupleB hm (h.ev ⟨ds, hd, pp⟩) hg he hpl
def ltD (x y : D) : Bool := PySem.W.dataLt (pyD x) (pyD y)
theorem p2_ltD {K : PySem.W.Frag} {I : Iv K} (hx : okPy x = true) (hy : okPy y = true) (al : PySem.W.alike (pyD x) (pyD y) = true) (nn : pyD x ≠ .none) (dp : (pyD x).depth ≤ 32) : P2 K I (rLtDT K) x y (.bl (ltD x y)) := fun P p G H v w Q s hI r1 r2 q =>
  ⟨pyD x, pyD y, dp_of s hx r1, dp_of s hy r2, al, nn, dp, q _ (.bl _) G H I (Same.refl G) s hI rfl p⟩
/-! tuples of texts, compared -/
def ltT : List Str → List Str → Bool
  | [], [] => false
  | [], _ :: _ => true
  | _ :: _, [] => false
  | x :: xs, y :: ys => if x = y then ltT xs ys else decide (x.cps.toList < y.cps.toList)
theorem alike_strs : ∀ xs ys : List Str, PySem.W.alikeAll (pyDs (xs.map D.str)) (pyDs (ys.map D.str)) = true
  | [], _ => rfl
  | _ :: _, [] => rfl
  | x :: xs, y :: ys => by
    show (PySem.W.alike (.str x) (.str y) && PySem.W.alikeAll (pyDs (xs.map D.str)) (pyDs (ys.map D.str))) = true
    rw [alike_strs xs ys]; rfl
theorem lt_strs : ∀ xs ys : List Str, PyProof.Rows.lexLt PyProof.Rows.itemOrd (PySem.W.keyToksAll (pyDs (xs.map D.str))) (PySem.W.keyToksAll (pyDs (ys.map D.str))) = ltT xs ys
  | [], [] => by decide +kernel
  | [], y :: ys => by
    show PyProof.Rows.lexLt PyProof.Rows.itemOrd [.inl 0] (.inl 1 :: _) = true
    rw [PySem.W.lex_atom (by simp)]; decide +kernel
  | x :: xs, [] => by
    show PyProof.Rows.lexLt PyProof.Rows.itemOrd (.inl 1 :: _) [.inl 0] = false
    rw [PySem.W.lex_atom (by simp)]; decide +kernel
  | x :: xs, y :: ys => by
    have al : PySem.W.alike (.str x) (.str y) = true := rfl
    show PyProof.Rows.lexLt PyProof.Rows.itemOrd (PySem.W.keyToksAll (.str x :: pyDs (xs.map D.str))) (PySem.W.keyToksAll (.str y :: pyDs (ys.map D.str))) = if x = y then ltT xs ys else decide (x.cps.toList < y.cps.toList)
    by_cases h : x = y
    · rw [if_pos h, PySem.W.dataLt_all_yes al ((inj_eqv_str x y).mpr h)]
      exact lt_strs xs ys
    · have hn : PyData.eqv (.str x) (.str y) = false := by
        cases e : PyData.eqv (.str x) (.str y) with
        | false => rfl
        | true => exact absurd ((inj_eqv_str x y).mp e) h
      rw [if_neg h, PySem.W.dataLt_all_no al hn, PySem.W.dataLt_str]
where inj_eqv_str (x y : Str) : PyData.eqv (.str x) (.str y) = true ↔ x = y := Inj.str.eq x y
theorem depth_strs : ∀ xs : List Str, PyData.depthAll (pyDs (xs.map D.str)) = 0
  | [] => rfl
  | x :: xs => by show max (PyData.depth (.str x)) (PyData.depthAll (pyDs (xs.map D.str))) = 0; rw [depth_strs xs]; rfl
theorem okPys_strs : ∀ xs : List Str, okPys (xs.map D.str) = true
  | [] => rfl
  | x :: xs => by show (true && okPys (xs.map D.str)) = true; rw [okPys_strs xs]; rfl
theorem p2_ltT {K : PySem.W.Frag} {I : Iv K} {xs ys : List Str} : P2 K I (rLtDT K) (.tup (xs.map D.str)) (.tup (ys.map D.str)) (.bl (ltT xs ys)) := by
  have e : ltD (.tup (xs.map D.str)) (.tup (ys.map D.str)) = ltT xs ys := by
    show PySem.W.dataLt (.tuple _) (.tuple _) = _
    rw [PySem.W.dataLt_tuple]; exact lt_strs xs ys
  rw [← e]
  refine p2_ltD (okPys_strs xs) (okPys_strs ys) (alike_strs xs ys) (fun h => nomatch h) ?_
  show PyData.depthAll (pyDs (xs.map D.str)) + 1 ≤ 32
  rw [depth_strs]; decide
end
end DL
set_option Elab.async false
set_option linter.all false
set_option maxRecDepth 100000
set_option maxHeartbeats 4000000
namespace DL
open PySem PySem.Spec PyProof.Rows L2
/-! ### regions: one says another, perhaps less -/
structure Wk {K : PySem.W.Frag} (I I' : Iv K) : Prop where
  F : ∀ a, I'.F a → I.F a
  φ : ∀ G H, I.φ G H → I'.φ G H
section
variable {K : PySem.W.Frag} {I I' J J' L : Iv K} {G H : Hp}
theorem Hd.wk (w : Wk I I') (h : Hd I G H) : Hd I' G H := ⟨w.φ _ _ h.ph, fun a ha => h.fr a (w.F a ha)⟩
theorem Wk.refl : Wk I I := ⟨fun _ h => h, fun _ _ h => h⟩
theorem Wk.trans (a : Wk I J) (b : Wk J L) : Wk I L := ⟨fun x h => a.F x (b.F x h), fun G H h => b.φ G H (a.φ G H h)⟩
theorem Wk.of (s : Sub I I') : Wk I I' := ⟨fun a h => (s.F a).mp h, s.φ⟩
theorem Wk.eq (e : I = I') : Wk I I' := e ▸ Wk.refl
theorem Wk.and (a : Wk I I') (b : Wk J J') : Wk (I.and J) (I'.and J') := ⟨fun x h => h.imp (a.F x) (b.F x), fun G H h => ⟨a.φ _ _ h.1, b.φ _ _ h.2.1, fun x hx => h.2.2 x ⟨a.F x hx.1, b.F x hx.2⟩⟩⟩
theorem Wk.andL (a : Wk I I') : Wk (I.and J) (I'.and J) := a.and .refl
theorem Wk.andR (a : Wk I I') : Wk (J.and I) (J.and I') := Wk.refl.and a
theorem Wk.fill (s : Wk I I') : ∀ c : Rc K, Wk (c.fill I) (c.fill I')
  | .here => s
  | .l c J => (Wk.fill s c).andL
  | .r J c => (Wk.fill s c).andR
theorem Wk.dropR : Wk (I.and J) I := ⟨fun _ h => .inl h, fun _ _ h => h.1⟩
theorem Wk.dropL : Wk (I.and J) J := ⟨fun _ h => .inr h, fun _ _ h => h.2.1⟩
theorem Wk.comm : Wk (I.and J) (J.and I) := ⟨fun _ h => h.symm, fun _ _ h => ⟨h.2.1, h.1, fun a ha => h.2.2 a ⟨ha.2, ha.1⟩⟩⟩
theorem Wk.assoc : Wk ((I.and J).and L) (I.and (J.and L)) := .of .assoc
theorem Wk.assoc' : Wk (I.and (J.and L)) ((I.and J).and L) := ⟨fun a h => h.elim (fun h => h.elim .inl fun h => .inr (.inl h)) fun h => .inr (.inr h), fun G H ⟨h1, ⟨h2, h3, h4⟩, h5⟩ => ⟨⟨h1, h2, fun a ha => h5 a ⟨ha.1, .inl ha.2⟩⟩, h3, fun a ha => ha.1.elim (fun q => h5 a ⟨q, .inr ha.2⟩) fun q => h4 a ⟨q, ha.2⟩⟩⟩
theorem Wk.swapR : Wk ((I.and J).and L) ((I.and L).and J) := Wk.assoc.trans (Wk.comm.andR.trans Wk.assoc')
/-- what stands behind is drawn within -/
theorem Wk.pull : ∀ c : Rc K, Wk ((c.fill I).and J) (c.fill (I.and J))
  | .here => .refl
  | .l c L => Wk.swapR.trans (Wk.pull c).andL
  | .r L c => Wk.assoc.trans (Wk.pull c).andR
theorem Wk.push : ∀ c : Rc K, Wk (c.fill (I.and J)) ((c.fill I).and J)
  | .here => .refl
  | .l c L => (Wk.push c).andL.trans Wk.swapR
  | .r L c => (Wk.push c).andR.trans Wk.assoc'
theorem Wk.inner : ∀ c : Rc K, Wk (c.fill I) I
  | .here => .refl
  | .l c J => Wk.dropR.trans (Wk.inner c)
  | .r J c => Wk.dropL.trans (Wk.inner c)
end
section
variable {X : Cx} {W : WX} {R : Rx X.K} {e : Expr} {es : List Expr} {sts : List Stmt} {st : Stmt} {δ : DEnv} {I I' : Iv X.K} {κ : Ko X.K} {P P' : D → Iv X.K → Prop}
theorem SX.wk (w : Wk I I') (h : SX X W sts δ I' κ) : SX X W sts δ I κ := fun σ G H E hE s hI k => h σ G H E hE s (hI.wk w) k
theorem S1.wk (w : Wk I I') (h : S1 X W st δ I' κ) : S1 X W st δ I κ := fun σ G H E hE s hI k => h σ G H E hE s (hI.wk w) k
theorem EvX.wk (w : Wk I I') (h : EvX X W R e δ I' P) : EvX X W R e δ I P := fun σ G H Q hE s hI qx q => h σ G H Q hE s (hI.wk w) qx q
theorem EvX.wkP (h : EvX X W R e δ I fun d I1 => ∃ I2, Wk I1 I2 ∧ P d I2) : EvX X W R e δ I P := fun σ G H Q hE s hI qx q =>
  h σ G H Q hE s hI qx fun v d G' H' I' s1 s2 h1 r ⟨I2, w, pp⟩ => q v d G' H' I2 s1 s2 (h1.wk w) r pp
/-- the end of a statement: less is said of the regions -/
def Ko.k {K : PySem.W.Frag} (κ : Ko K) : Ko K := ⟨fun δ I => ∃ I', Wk I I' ∧ κ.nx δ I', fun d I => ∃ I', Wk I I' ∧ κ.rt d I', fun δ I => ∃ I', Wk I I' ∧ κ.bk δ I', fun δ I => ∃ I', Wk I I' ∧ κ.ct δ I', fun C fs δ I => ∃ I', Wk I I' ∧ κ.ex C fs δ I'⟩
theorem KoLe.k {E : Ends} {G : Hp} (h : KoLe X.K W E G κ) : KoLe X.K W E G κ.k where
  nx := fun δ σ G' H' I' s1 s2 h1 r ⟨I2, w, p⟩ => h.nx δ σ G' H' I2 s1 s2 (h1.wk w) r p
  rt := fun v d G' H' I' s1 s2 h1 r ⟨I2, w, p⟩ => h.rt v d G' H' I2 s1 s2 (h1.wk w) r p
  bk := fun δ σ G' H' I' s1 s2 h1 r ⟨I2, w, p⟩ => h.bk δ σ G' H' I2 s1 s2 (h1.wk w) r p
  ct := fun δ σ G' H' I' s1 s2 h1 r ⟨I2, w, p⟩ => h.ct δ σ G' H' I2 s1 s2 (h1.wk w) r p
  ex := fun C dd fs l δ σ G' H' I' s1 s2 h1 r q hd ⟨I2, w, p⟩ => h.ex C dd fs l δ σ G' H' I2 s1 s2 (h1.wk w) r q hd p
theorem SX.k (h : SX X W sts δ I κ.k) : SX X W sts δ I κ := fun σ G H E hE s hI k => h σ G H E hE s hI k.k
theorem S1.k (h : S1 X W st δ I κ.k) : S1 X W st δ I κ := fun σ G H E hE s hI k => h σ G H E hE s hI k.k
end
/-! ### rows: lists that may change, in a list -/
def iRows (K : PySem.W.Frag) : List Addr → List (List D) → Iv K
  | q :: qs, r :: rs => (iLst K q r).and (iRows K qs rs)
  | _, _ => iEmp K
section
variable {K : PySem.W.Frag}
theorem iRows_at : ∀ {qs : List Addr} {rs : List (List D)} {i : Nat} {q : Addr} {r : List D}, qs.length = rs.length → qs[i]? = some q → rs[i]? = some r → ∃ c : Rc K, iRows K qs rs = c.fill (iLst K q r) ∧ ∀ r', c.fill (iLst K q r') = iRows K qs (rs.set i r')
  | q :: qs, r :: rs, 0, _, _, _, hq, hr => by
    cases hq
    cases hr
    exact ⟨.l .here (iRows K qs rs), rfl, fun r' => rfl⟩
  | q :: qs, r :: rs, i + 1, q', r', hl, hq, hr => by
    obtain ⟨c, h1, h2⟩ := iRows_at (qs := qs) (rs := rs) (i := i) (by simpa using hl) (by simpa using hq) (by simpa using hr)
    refine ⟨.r (iLst K q r) c, by show (iLst K q r).and (iRows K qs rs) = _; rw [h1]; rfl, fun r'' => ?_⟩
    show (iLst K q r).and (c.fill (iLst K q' r'')) = _
    rw [h2]; rfl
  | [], _, i, _, _, _, hq, _ => by cases hq
  | _ :: _, [], _, _, _, hl, _, _ => by simp at hl
theorem Wk.rows_app : ∀ {qs qs' : List Addr} {rs rs' : List (List D)}, qs.length = rs.length → Wk ((iRows K qs rs).and (iRows K qs' rs')) (iRows K (qs ++ qs') (rs ++ rs'))
  | [], qs', [], rs', _ => Wk.dropL
  | q :: qs, qs', r :: rs, rs', hl => by
    have ih := Wk.rows_app (qs := qs) (qs' := qs') (rs := rs) (rs' := rs') (by simpa using hl)
    exact Wk.assoc.trans ih.andR
  | [], _, _ :: _, _, hl => by simp at hl
  | _ :: _, _, [], _, hl => by simp at hl
theorem Wk.rows_split : ∀ {qs qs' : List Addr} {rs rs' : List (List D)}, qs.length = rs.length → Wk (iRows K (qs ++ qs') (rs ++ rs')) ((iRows K qs rs).and (iRows K qs' rs'))
  | [], qs', [], rs', _ => ⟨fun a h => h.elim (fun h => h.elim) id, fun G H h => ⟨trivial, h, fun a ha => ha.1.elim⟩⟩
  | q :: qs, qs', r :: rs, rs', hl => by
    have ih := Wk.rows_split (qs := qs) (qs' := qs') (rs := rs) (rs' := rs') (by simpa using hl)
    exact ih.andR.trans Wk.assoc'
  | [], _, _ :: _, _, hl => by simp at hl
  | _ :: _, _, [], _, hl => by simp at hl
theorem Wk.row1 {q : Addr} {r : List D} : Wk (iLst K q r) (iRows K [q] [r]) := ⟨fun a h => h.elim id fun h => h.elim, fun G H h => ⟨h, trivial, fun a ha => ha.2.elim⟩⟩
theorem Wk.emp {I : Iv K} : Wk I (iEmp K) := ⟨fun _ h => h.elim, fun _ _ _ => trivial⟩
end
/-! ### lists, as they stand -/
structure LsI {K : PySem.W.Frag} (I : Iv K) (d : D) (ds : List D) : Prop where
  h : ∀ (G H : Hp) (v : V), Same G H → Hd I G H → Rep K G d v → ∃ a vs, v = .ref a ∧ H a = some (.lst vs) ∧ Reps K G ds vs
section
variable {K : PySem.W.Frag} {I J : Iv K} {d x y z : D} {ds es : List D} {p : Addr} {c : Rc K} {i : Int}
theorem LsI.k : LsI I (.lst ds) ds := ⟨fun G H v s _ ⟨a, vs, e, h1, h2⟩ => ⟨a, vs, e, s _ _ h1, h2⟩⟩
theorem LsI.m (c : Rc K) (eI : I = c.fill (iLst K p ds) := by rfl) : LsI I (.adr p) ds := ⟨fun G H v s hI r => by
  subst eI
  obtain ⟨vs, ho, rr, _⟩ := hI.lst
  exact ⟨p, vs, r, ho, rr⟩⟩
theorem LsI.wk (w : Wk I J) (h : LsI J d ds) : LsI I d ds := ⟨fun G H v s hI r => h.h G H v s (hI.wk w) r⟩
theorem p2_ixI (l : LsI I x ds) (h : atI ds i = some d) : P2 K I (rIxL K) x (.int i) d := fun P pp G H v w Q s hI r1 r2 q => by
  obtain ⟨a, vs, ev, ho, r⟩ := l.h G H v s hI r1
  obtain ⟨u, h1, h2⟩ := atI_rep r h
  exact ⟨a, vs, i, u, ev, r2, SqL.of ho, h1, q u d G H _ (Same.refl G) s hI h2 pp⟩
theorem pn_lenI (l : LsI I d ds) : PN K I (fun xs H Q => ∃ p ys, xs = [.ref p] ∧ (SqL K H p ys ∨ SqT K H p ys) ∧ Q (.int ys.length) H) [d] (.int ds.length) := fun P pp G H vs Q s hI ⟨v, r, e1, e2, e3⟩ q => by
  obtain ⟨a, ws, ev, ho, rr⟩ := l.h G H v s hI e2
  exact ⟨a, ws, by rw [e1, ev, show r = [] from e3], .inl (SqL.of ho), by rw [rr.length]; exact q _ (.int ds.length) G H _ (Same.refl G) s hI rfl pp⟩
theorem p2_catI (l : LsI I x ds) (m : LsI I y es) (hz : ds.length + es.length ≤ 100000) : P2 K I rCat x y (.lst (ds ++ es)) := fun P pp G H v w Q s hI r1 r2 q => by
  obtain ⟨a, vs, e1, h1, rr1⟩ := l.h G H v s hI r1
  obtain ⟨b, zs, e2, h2, rr2⟩ := m.h G H w s hI r2
  refine ⟨a, b, vs, zs, e1, e2, h1, h2, by rw [rr1.length, rr2.length, sizeLine_eq]; omega, fun n hn => ?_⟩
  have hg : G n = none := s.free hn
  exact q (.ref n) (.lst (ds ++ es)) (upd G n (.lst (vs ++ zs))) _ _ (Evl.Ex.new hg) (same_upd2 s) (hI.keep hn s) ⟨n, vs ++ zs, rfl, upd_same, (rr1.append rr2).mono (Evl.Ex.new hg)⟩ pp
/-- .. to be changed -/
theorem o2_catM {P : D → Iv K → Prop} (l : LsI I x ds) (m : LsI I y es) (hz : ds.length + es.length ≤ 100000) (pp : ∀ n, P (.adr n) (I.and (iLst K n (ds ++ es)))) : Op2 K rCat x y I P := fun G H v w Q s hI r1 r2 q => by
  obtain ⟨a, vs, e1, h1, rr1⟩ := l.h G H v s hI r1
  obtain ⟨b, zs, e2, h2, rr2⟩ := m.h G H w s hI r2
  refine ⟨a, b, vs, zs, e1, e2, h1, h2, by rw [rr1.length, rr2.length, sizeLine_eq]; omega, fun n hn => ?_⟩
  have hg : G n = none := s.free hn
  have na : ∀ a, ¬ (I.F a ∧ a = n) := fun a ha => hI.dom ha.1 (by rw [ha.2]; exact hn)
  exact q (.ref n) (.adr n) G _ (I.and (iLst K n (ds ++ es))) (Same.refl G) (same_upd s hg) (Hd.mk2 (hI.newp hn) ⟨⟨_, upd_same, _, rfl, rr1.append rr2⟩, fun a ha => by rw [show a = n from ha]; exact hg⟩ na) rfl (pp n)
/-- list(xs), to be changed -/
theorem on_listI {P : D → Iv K → Prop} (l : LsI I d ds) (pp : ∀ n, P (.adr n) (I.and (iLst K n ds))) : OpN K (fun xs H Q => ∃ p ys, xs = [.ref p] ∧ (SqL K H p ys ∨ SqT K H p ys) ∧ ∀ l, H l = none → Q (.ref l) (upd H l (.lst ys))) [d] I P := fun G H vs Q s hI ⟨v, r, e1, e2, e3⟩ q => by
  obtain ⟨a, ws, ev, ho, rr⟩ := l.h G H v s hI e2
  refine ⟨a, ws, by rw [e1, ev, show r = [] from e3], .inl (SqL.of ho), fun n hn => ?_⟩
  have hg : G n = none := s.free hn
  have na : ∀ a, ¬ (I.F a ∧ a = n) := fun a ha => hI.dom ha.1 (by rw [ha.2]; exact hn)
  exact q (.ref n) (.adr n) G _ (I.and (iLst K n ds)) (Same.refl G) (same_upd s hg) (Hd.mk2 (hI.newp hn) ⟨⟨_, upd_same, ws, rfl, rr⟩, fun a ha => by rw [show a = n from ha]; exact hg⟩ na) rfl (pp n)
end
section
variable {X : Cx} {W : WX} {R : Rx X.K} {a b e o elt tg iter : Expr} {es : List Expr} {ifs : List Expr} {scope : Scope} {lo hi : Option Expr} {δ : DEnv} {I : Iv X.K} {P : D → Iv X.K → Prop} {pos p2 : Pos} {d z x : D} {ds : List D} {l h : Option Int} {κ : Ko X.K} {p : Addr} {i : Int}
theorem pv_slI (ha : PV X I a δ x) (li : LsI I x ds) (hl : PVO X I lo δ l) (hh : PVO X I hi δ h) : PV X I (.Subscript a (.Slice lo hi none p2) pos) δ (.lst (cutD ds l h)) :=
  pv_slice sl_list ha hl hh fun G H v Q s hI r q => by
    obtain ⟨b, vs, ev, e1, e2⟩ := li.h G H v s hI r
    exact ⟨b, vs, ev, SqL.of e1, fun p hp => by
      have hg : G p = none := s.free hp
      exact q (.ref p) _ _ (Evl.Ex.new hg) (same_upd2 s) (hI.keep hp s) ⟨p, _, rfl, upd_same, (e2.cut l h).mono (Evl.Ex.new hg)⟩⟩
/-- xs[i] = e, the value may change things -/
theorem s_setItemE {ps : Pos} (h : EvX X W (κ.r δ) e δ I fun d I1 => ∃ (c : Rc X.K) (p : Addr) (ds : List D) (i : Int) (j : Nat), I1 = c.fill (iLst X.K p ds) ∧ PV X I1 o δ (.adr p) ∧ PV X I1 b δ (.int i) ∧ ixN ds.length i = some j ∧ κ.nx δ (c.fill (iLst X.K p (ds.set j d))))
    (hs : swapsWithSole [.Subscript o b ps] e pos.line X.env = pure false := by rfl) (hw : swappedStores [.Subscript o b ps] e X.env = pure none := by rfl) (h1 : (assignEach [.Subscript o b ps] X.env).map (·.2) = [assign (.Subscript o b ps) X.env] := by rfl)
    (hasg : ∀ v, assign (.Subscript o b ps) X.env v = (do
      let ov ← holding [v] (eval o X.env)
      let iv ← holding [v, ov] (eval b X.env)
      standAt ps
      holding [v, ov, iv] (setItem ov iv v)
      release [v, ov, iv] []) := by intro _; rfl) :
    S1 X W (.Assign [.Subscript o b ps] e pos) δ I κ := fun σ G H E hE s hI k =>
  PS.wp (ps_asg peC (pg_sub peC peC set_list (ha := hasg)) hs hw h1) (h σ G H _ hE s hI (k.kx hE) fun v d1 G1 H1 I1 s1 t1 h1 r1 ⟨c, p, ds, i, j, ei, ho, hi, hj, nx⟩ => by
    subst ei
    refine ho W (κ.r δ) (fun z J => z = .adr p ∧ J = c.fill (iLst X.K p ds)) ⟨rfl, rfl⟩ σ G1 H1 _ (hE.mono s1) t1 h1 ((k.kx hE).mono s1) fun v2 d2 G2 H2 I2 s2 t2 h2 r2 ⟨ed2, ei2⟩ => ?_
    subst ed2 ei2
    refine hi W (κ.r δ) (fun z J => z = .int i ∧ J = c.fill (iLst X.K p ds)) ⟨rfl, rfl⟩ σ G2 H2 _ ((hE.mono s1).mono s2) t2 h2 (((k.kx hE).mono s1).mono s2) fun v3 d3 G3 H3 I3 s3 t3 h3 r3 ⟨ed3, ei3⟩ => ?_
    subst ed3 ei3
    obtain ⟨vs, hp, rr, hg⟩ := h3.lst
    refine ⟨p, vs, i, j, r2, r3, hp, by rw [rr.length]; exact hj, ?_⟩
    exact k.nx _ _ G3 _ _ ((s1.trans s2).trans s3) (same_upd t3 hg) (h3.lstSet (rr.set (r1.mono (s2.trans s3)))) (hE.mono ((s1.trans s2).trans s3)) nx)
/-- xs.append(e), the value may change things -/
theorem s_appendE {apos ep : Pos} (ho : PV X I o δ (.adr p)) (li : LsI I (.adr p) ds) (h : EvX X W (κ.r δ) e δ I fun d I1 => ∃ (c : Rc X.K) (ds : List D), I1 = c.fill (iLst X.K p ds) ∧ ds.length < 1000000 ∧ κ.nx δ (c.fill (iLst X.K p (ds ++ [d]))))
    (hbase : attributeBase o "append" X.env (eval o X.env) = eval o X.env := by rfl)
    (hfew : ((backTo pos (starEach [e] X.env)).all (fun x => !x.1) && (backToKw pos (keywordEach [] X.env)).all (fun x => x.1.isSome) && decide ([e].length + ([] : List Keyword).length + (if ([] : List Keyword).isEmpty then 0 else 1) < 30)) = true := by rfl)
    (hline : (apos.endLine == pos.line) = true := by rfl) (hst : starEach [e] X.env = (false, eval e X.env) :: starEach [] X.env := by rfl) (hpl : (backTo pos (starEach [] X.env)).any (·.1) = false := by rfl)
    (hs : swapsWith (.Call (.Attribute o "append" apos) [e] [] pos) none ep.line X.env = pure false := by rfl) : S1 X W (.Expr (.Call (.Attribute o "append" apos) [e] [] pos) ep) δ I κ := fun σ G H E hE s hI k =>
  PS.wp (ps_expr (pe_bm PySem.F.plainAttrs_list PySem.F.slot_list_append PySem.F.type_list_append mt_append peC (pa_cons peC pa_nil hst) hbase hfew hline hst hpl) hs) (ho W (κ.r δ) (fun z I1 => z = .adr p ∧ I1 = I) ⟨rfl, rfl⟩ σ G H _ hE s hI (k.kx hE) fun v d1 G1 H1 I1 s1 t1 h1 r1 ⟨ed, ei⟩ => by
    subst ed ei
    obtain ⟨a, vs, ev, hp, rv⟩ := li.h G1 H1 v t1 h1 r1
    obtain rfl : v = .ref p := r1
    cases ev
    refine ⟨.inl ⟨rfl, _, .inl (.inl hp)⟩, ?_⟩
    refine h σ G1 H1 _ (hE.mono s1) t1 h1 ((k.kx hE).mono s1) fun w d2 G2 H2 I2 s2 t2 h2 r2 ⟨c, ds2, ei, hz, nx⟩ => ?_
    subst ei
    obtain ⟨vs2, hp2, rv2, gp2⟩ := h2.lst
    refine ⟨p, vs2, w, rfl, rfl, hp2, by rw [rv2.length, sizeLine_eq]; omega, ?_⟩
    exact k.nx δ σ G2 _ _ (s1.trans s2) (same_upd t2 gp2) (h2.lstSet (rv2.append (Reps.one r2))) (hE.mono (s1.trans s2)) nx)
end
end DL
set_option Elab.async false
set_option linter.all false
set_option maxRecDepth 100000
set_option maxHeartbeats 4000000
namespace DL
open PySem PySem.Spec PyProof.Rows L2
/-! ### walks over lists that may change, while they do not -/
structure WalkR (K : PySem.W.Frag) (J : It) (ds : List D) (Ok : Iv K → Prop) (G : Hp) : Prop where
  go : ∀ i G' H' I', Same G G' → Same G' H' → Hd I' G' H' → Ok I' → i < ds.length → J.go i H'
  stop : ∀ G' H' I', Same G G' → Same G' H' → Hd I' G' H' → Ok I' → J.stop ds.length H'
  yld : ∀ i G' H' I' x H'', Same G G' → Same G' H' → Hd I' G' H' → Ok I' → i < ds.length → J.yld i H' x H'' → ∃ G'', Same G' G'' ∧ Same G'' H'' ∧ Hd I' G'' H'' ∧ ∃ d, ds[i]? = some d ∧ Rep K G'' d x
theorem WalkR.mono {K : PySem.W.Frag} {J : It} {ds : List D} {Ok : Iv K → Prop} {G G1 : Hp} (h : WalkR K J ds Ok G) (s : Same G G1) : WalkR K J ds Ok G1 :=
  ⟨fun i G' H' I' s1 => h.go i G' H' I' (s.trans s1), fun G' H' I' s1 => h.stop G' H' I' (s.trans s1), fun i G' H' I' x H'' s1 => h.yld i G' H' I' x H'' (s.trans s1)⟩
theorem WalkD.r {K : PySem.W.Frag} {J : It} {ds : List D} {G : Hp} (h : WalkD K J ds G) : WalkR K J ds (fun _ => True) G :=
  ⟨fun i G' H' _ s1 s2 _ _ => h.go i G' H' s1 s2, fun G' H' _ s1 s2 _ _ => h.stop G' H' s1 s2, fun i G' H' I' x H'' s1 s2 hI _ hi y => by
    obtain ⟨G3, a, b, c, _, d⟩ := h.yld i G' H' I' x H'' s1 s2 hI hi y
    exact ⟨G3, a, b, c, d⟩⟩
theorem walk_mL {K : PySem.W.Frag} {a : Addr} {ds : List D} {G : Hp} : WalkR K (Itl K a) ds (fun I' => LsI I' (.adr a) ds) G := by
  have k : ∀ {G' H' : Hp} {I' : Iv K}, Same G' H' → Hd I' G' H' → LsI I' (.adr a) ds → ∃ vs, H' a = some (.lst vs) ∧ Reps K G' ds vs := fun {G' H' I'} s hI l => by
    obtain ⟨b, vs, e, h1, h2⟩ := l.h G' H' (.ref a) s hI rfl
    cases e
    exact ⟨vs, h1, h2⟩
  refine ⟨fun i G' H' I' _ s2 hI l hi => ?_, fun G' H' I' _ s2 hI l => ?_, fun i G' H' I' x H'' _ s2 hI l hi y => ?_⟩
  · obtain ⟨vs, h1, h2⟩ := k s2 hI l
    exact (walk_list (K := K) (a := a) (xs := vs)).goes i H' (by rw [h2.length]; exact hi) (SqL.of h1)
  · obtain ⟨vs, h1, h2⟩ := k s2 hI l
    rw [← h2.length]; exact walk_list.stops H' (SqL.of h1)
  · obtain ⟨vs, h1, h2⟩ := k s2 hI l
    obtain ⟨eH, ex⟩ := (walk_list (K := K) (a := a) (xs := vs)).yields i H' x H'' (by rw [h2.length]; exact hi) (SqL.of h1) y
    subst eH
    obtain ⟨d, hd⟩ : ∃ d, ds[i]? = some d := ⟨ds[i], by simp [hi]⟩
    obtain ⟨v, g1, g2⟩ := h2.get hd
    rw [ex] at g1
    cases g1
    exact ⟨G', Same.refl _, s2, hI, d, hd, g2⟩
def EvIR (X : Cx) (W : WX) (R : Rx X.K) (tg iter : Expr) (δ : DEnv) (I : Iv X.K) (P : List D → (Iv X.K → Prop) → Iv X.K → Prop) : Prop := ∀ (σ : L2.St) (G H : Hp) (RR : It → Hp → Prop), EnvR X.K G δ σ → Same G H → Hd I G H → Kx X.K W σ G R →
  (∀ (J : It) (ds : List D) (Ok : Iv X.K → Prop) (G' H' : Hp) (I' : Iv X.K), (∀ I J, Ok I → Ok (I.and J)) → Same G G' → Same G' H' → Hd I' G' H' → WalkR X.K J ds Ok G' → P ds Ok I' → RR J H') → wpI X tg iter σ H RR
section
variable {X : Cx} {W : WX} {R : Rx X.K} {elt tg iter e a : Expr} {ifs : List Expr} {es : List Expr} {scope : Scope} {body sts : List Stmt} {δ : DEnv} {I : Iv X.K} {κ : Ko X.K} {P : D → Iv X.K → Prop} {pos : Pos} {d z : D} {ds : List D} {p : Addr} {PP : List D → (Iv X.K → Prop) → Iv X.K → Prop}
theorem eir_d (h : EvI X W R tg iter δ I fun ds I1 => PP ds (fun _ => True) I1) : EvIR X W R tg iter δ I PP := fun σ G H RR hE s hI qx q =>
  h σ G H RR hE s hI qx fun J ds G' H' I' s1 s2 h1 wk pp => q J ds _ G' H' I' (fun _ _ _ => trivial) s1 s2 h1 wk.r pp
theorem eir_m (h : PV X I iter δ (.adr p)) (l : LsI I (.adr p) ds) (pp : PP ds (fun I' => LsI I' (.adr p) ds) I) : EvIR X W R tg iter δ I PP := fun σ G H RR hE s hI qx q =>
  PI.wp (pi_list peC) (h W R (fun z J => z = .adr p ∧ J = I) ⟨rfl, rfl⟩ σ G H _ hE s hI qx fun v d1 G1 H1 I1 s1 t1 h1 r1 ⟨ed, ei⟩ => by
    subst ed ei
    obtain rfl : v = .ref p := r1
    obtain ⟨b, vs, e, g1, g2⟩ := l.h G1 H1 (.ref p) t1 h1 rfl
    cases e
    exact ⟨p, rfl, ⟨vs, SqL.of g1⟩, q (Itl X.K p) ds _ G1 H1 _ (fun _ _ l => l.wk .dropR) s1 t1 h1 walk_mL pp⟩)
/-- a for, over lists that may change but do not -/
theorem s_forR (po : PassesOwn (model X.prog X.w) X.A X.env X.xe) (h : EvIR X W (κ.r δ) tg iter δ I fun ds Ok I1 => ∃ Nv : Nat → DEnv → Iv X.K → Prop, Nv 0 δ I1 ∧ (∀ i δ' I', Nv i δ' I' → Ok I') ∧
      (∀ i d δ' I', ds[i]? = some d → Nv i δ' I' → ∃ δ'' vs, BindD X tg d δ' δ'' vs ∧ SX X W body δ'' I' { κ with nx := Nv (i + 1), ct := Nv (i + 1), bk := κ.nx }) ∧ ∀ δ' I', Nv ds.length δ' I' → κ.nx δ' I')
    (hc : X.calm = true := by rfl) (hs : ∀ x, foldedSetIterable iter X.env x = pure x := by intro _; rfl) : S1 X W (.For tg iter body [] pos) δ I κ := fun σ G H E hE s hI k =>
  PS.wp (ps_for po hc piC pgC pssC hs) (h σ G H _ hE s hI (k.kx hE) fun J ds Ok G1 H1 I1 okA s1 t1 h1 wk ⟨Nv, i0, hok, step, fin⟩ => by
    refine ⟨fun i m σ' H' => m = ds.length - i ∧ i ≤ ds.length ∧ ∃ δ' G' I', Same G1 G' ∧ Same G' H' ∧ Hd I' G' H' ∧ EnvR X.K G' δ' σ' ∧ Nv i δ' I', ⟨_, rfl, Nat.zero_le _, δ, G1, I1, Same.refl G1, t1, h1, hE.mono s1, i0⟩, ?_⟩
    rintro i m σ' H' ⟨rfl, hi, δ', G', I', s2, t2, h2, e2, iv⟩
    by_cases hlt : i < ds.length
    · refine .inr ⟨wk.go i G' H' I' s2 t2 h2 (hok _ _ _ iv) hlt, fun σ3 H3 => ∃ δ3 G3 I3, Same G1 G3 ∧ Same G3 H3 ∧ Hd I3 G3 H3 ∧ EnvR X.K G3 δ3 σ3 ∧ Nv (i + 1) δ3 I3, fun σ3 H3 ⟨δ3, G3, I3, q1, q2, q3, q4, q5⟩ => ⟨ds.length - (i + 1), by omega, rfl, hlt, δ3, G3, I3, q1, q2, q3, q4, q5⟩, fun x H3 hy => ?_⟩
      obtain ⟨G3, s3, t3, h3, d, hd, rd⟩ := wk.yld i G' H' I' x H3 s2 t2 h2 (hok _ _ _ iv) hlt hy
      obtain ⟨δ'', vs, bd, bs⟩ := step i d δ' I' hd iv
      refine bd x σ' G3 H3 _ (e2.mono s3) t3 rd fun σ4 e4 _ => ?_
      have s13 : Same G1 G3 := s2.trans s3
      exact bs σ4 G3 H3 _ e4 t3 h3 ⟨fun δ5 σ5 G5 H5 I5 s5 t5 h5 r5 p5 => ⟨δ5, G5, I5, s13.trans s5, t5, h5, r5, p5⟩, k.rt.mono (s1.trans s13), k.nx.mono (s1.trans s13), fun δ5 σ5 G5 H5 I5 s5 t5 h5 r5 p5 => ⟨δ5, G5, I5, s13.trans s5, t5, h5, r5, p5⟩, k.ex.mono (s1.trans s13)⟩
    · have ei : i = ds.length := by omega
      subst ei
      exact .inl ⟨wk.stop G' H' I' s2 t2 h2 (hok _ _ _ iv), k.nx δ' σ' G' H' I' (s1.trans s2) t2 h2 e2 (fin δ' I' iv)⟩)
/-! ### comprehensions whose regions grow; the list may change afterwards -/
def LcR (X : Cx) (W : WX) (R : Rx X.K) (elt tg iter : Expr) (ifs : List Expr) (scope : Scope) (own : List (Str × Nat)) (δ : DEnv) (I : Iv X.K) (P : D → Iv X.K → Prop) : Prop := EvIR X W R tg iter δ I fun ds Ok I1 => ds.length ≤ 1000000 ∧ ∃ (Nv : Nat → List D → Iv X.K → Prop), Nv 0 [] I1 ∧ (∀ i ys I', Nv i ys I' → Ok I') ∧
      (∀ i d ys I', ds[i]? = some d → Nv i ys I' → ∃ (T : Bool → Prop) (δ' : DEnv), (∀ (J : Iv X.K) (s : Shared) (H : Hp) (C : Addr) (cl : List (Str × Addr)) (fp : List Addr),
        BindD (X.blk s H scope (compEnvC scope cl C X.env) fp) tg d (wipeD δ (own.map (·.2))) δ' (own.map (·.2)) ∧
        EvTs (X.blk s H scope (compEnvC scope cl C X.env) fp) W0 R0 ifs δ' (I'.and J) fun b I2 => I2 = I'.and J ∧ T b) ∧
        (T true → ∀ (J : Iv X.K) (s : Shared) (H : Hp) (C : Addr) (cl : List (Str × Addr)) (fp : List Addr), EvX (X.blk s H scope (compEnvC scope cl C X.env) fp) W0 R0 elt δ' (I'.and J) fun y I3 => ∃ I'', Wk I3 (I''.and J) ∧ Nv (i + 1) (ys ++ [y]) I'') ∧ (T false → Nv (i + 1) ys I')) ∧
      ∀ ys I', Nv ds.length ys I' → ∀ p, P (.adr p) (I'.and (iLst X.K p ys))
theorem lcR_t {own : List (Str × Nat)} (h : LcR X W R elt tg iter ifs scope own δ I P) {σ : L2.St} {G H : Hp} {Q : VK} (hE : EnvR X.K G δ σ) (s : Same G H) (hI : Hd I G H) (qx : Kx X.K W σ G R) (q : Kv X.K Q G P) :
    tLc (wpI X tg iter) (fun v σ H Q => ∀ s0 H0 C cl fp, wpG (X.blk s0 H0 scope (compEnvC scope cl C X.env) fp) tg v σ H Q) (fun σ H Q => ∀ s0 H0 C cl fp, wpTs (X.blk s0 H0 scope (compEnvC scope cl C X.env) fp) ifs σ H Q)
      (fun σ H Q => ∀ s0 H0 C cl fp, wpE (X.blk s0 H0 scope (compEnvC scope cl C X.env) fp) elt σ H Q) (own.map (·.2)) σ H Q := by
  refine h σ G H _ hE s hI qx fun J ds Ok G1 H1 I1 okA s1 t1 h1 wk ⟨hz, Nv, n0, hok, step, fin⟩ D hD => ?_
  have gD : G1 D = none := t1.free hD
  have apart0 : ∀ a, ¬ (I1.F a ∧ a = D) := fun a ha => h1.dom ha.1 (by rw [ha.2]; exact hD)
  refine ⟨fun i m H' => m = ds.length - i ∧ i ≤ ds.length ∧ ∃ ys G' I', Nv i ys I' ∧ ys.length ≤ i ∧ Same G1 G' ∧ Same G' H' ∧ Hd (I'.and (iLst X.K D ys)) G' H', ⟨_, rfl, Nat.zero_le _, [], G1, I1, n0, Nat.le_refl _, Same.refl _, same_upd t1 gD, ?_⟩, ?_⟩
  · exact Hd.mk2 (h1.newp hD) ⟨⟨_, upd_same, [], rfl, rfl⟩, fun a ha => by rw [show a = D from ha]; exact gD⟩ apart0
  · rintro i m H' ⟨rfl, hi, ys, G', I', nv, hy, s2, t2, hd2⟩
    have okJ := okA I' (iLst X.K D ys) (hok _ _ _ nv)
    by_cases hlt : i < ds.length
    · refine .inr ⟨wk.go i G' H' _ s2 t2 hd2 okJ hlt, fun H3 => ∃ ys3 G3 I3, Nv (i + 1) ys3 I3 ∧ ys3.length ≤ i + 1 ∧ Same G1 G3 ∧ Same G3 H3 ∧ Hd (I3.and (iLst X.K D ys3)) G3 H3, fun H3 ⟨ys3, G3, I3, q1, q2, q3, q4, q5⟩ => ⟨ds.length - (i + 1), by omega, rfl, hlt, ys3, G3, I3, q1, q2, q3, q4, q5⟩, fun x H3 hyl => ?_⟩
      obtain ⟨G3, s3, t3, h3, d, hd, rd⟩ := wk.yld i G' H' _ x H3 s2 t2 hd2 okJ hlt hyl
      obtain ⟨T, δ', stA, stB, stC⟩ := step i d ys I' hd nv
      intro s0 H0 C cl fp
      refine (stA (iLst X.K D ys) s0 H0 C cl fp).1 x _ G3 H3 _ (((hE.mono s1).mono (s2.trans s3)).wipe _) t3 rd fun σ4 e4 ew => ⟨by rw [ew, wipe_wipe], ?_⟩
      intro s0 H0 C cl fp
      refine (stA (iLst X.K D ys) s0 H0 C cl fp).2 σ4 G3 H3 _ e4 t3 h3 kx0 fun b G4 H4 I4 s4 t4 h4 ⟨eI, pb⟩ => ?_
      subst eI
      cases b with
      | false => exact ⟨ys, G4, I', stC pb, by omega, (s2.trans s3).trans s4, t4, h4⟩
      | true =>
        intro s0 H0 C cl fp
        refine stB pb (iLst X.K D ys) s0 H0 C cl fp σ4 G4 H4 _ (e4.mono s4) t4 h4 kx0 fun y dy G5 H5 I5 s5 t5 h5 r5 ⟨I6, w6, nv5⟩ => ?_
        have h6 := h5.wk w6
        obtain ⟨o, ho, vs, ev, rv⟩ := h6.right.ph
        subst ev
        have g5 : G5 D = none := h6.right.fr D rfl
        refine ⟨vs, ho, ?_, ys ++ [dy], G5, I6, nv5, by simp; omega, ((s2.trans s3).trans s4).trans s5, same_upd t5 g5, ?_⟩
        · rw [rv.length, sizeLine_eq]; omega
        · refine Hd.mk2 (h6.left.chg fun hf => h6.apart D ⟨hf, rfl⟩) ⟨⟨_, upd_same, _, rfl, rv.append (Reps.one r5)⟩, h6.right.fr⟩ h6.apart
    · have ei : i = ds.length := by omega
      subst ei
      exact .inl ⟨wk.stop G' H' _ s2 t2 hd2 okJ, q (.ref D) (.adr D) G' H' _ (s1.trans s2) t2 hd2 rfl (fin ys I' nv D)⟩
theorem ev_lcR (own : List (Str × Nat)) (hN : X.N.Nodup) (ok : BlkOk X.N X.env.scope scope own) (h : LcR X W R elt tg iter ifs scope own δ I P)
    (hc : X.calm = true := by rfl) (hs : ∀ x, foldedSetIterable iter X.env x = pure x := by intro _; rfl) : EvX X W R (.ListComp elt [⟨tg, iter, ifs, 0⟩] scope pos) δ I P := fun σ G H Q hE s hI qx q =>
  PE.wp (pe_lc hc hN piC ok (fun s0 H0 C cl fp => ⟨fun pins s σ H v u Q J r k => (k s0 H0 C cl fp).run pins s u J r⟩) (fun s0 H0 C cl fp => ⟨fun pins s σ H Q J k => (k s0 H0 C cl fp).run pins s J⟩) (fun s0 H0 C cl fp => ⟨fun pins s σ H Q J k => (k s0 H0 C cl fp).run pins s J⟩) hs) (lcR_t h hE s hI qx q)
theorem s_setLcR (i : Nat) {y : Str} {py spos : Pos} (own : List (Str × Nat)) (h : LcR X W (κ.r δ) elt tg iter ifs scope own δ I fun d I1 => κ.nx (δ.set i (some d)) I1) (hN : X.N.Nodup := by assumption) (hi : X.N[i]? = some y := by rfl) (hyl : X.env.scope.names.lookup y = some .local := by rfl)
    (hsw : swapsWith (.ListComp elt [⟨tg, iter, ifs, 0⟩] scope pos) (some (.Name y py)) spos.line X.env = pure true := by exact sw_true rfl rfl rfl (by decide +kernel)) (ok : blkC X.N X.env.scope scope own = true := by rfl)
    (hc : X.calm = true := by rfl) (hs : ∀ x, foldedSetIterable iter X.env x = pure x := by intro _; rfl) : S1 X W (.Assign [.Name y py] (.ListComp elt [⟨tg, iter, ifs, 0⟩] scope pos) spos) δ I κ := fun σ G H E hE s hI k =>
  PS.wp (ps_setLc hc hN hi hyl hsw piC (blkOk_by ok) (fun s0 H0 C cl fp => ⟨fun pins s σ H v u Q J r k => (k s0 H0 C cl fp).run pins s u J r⟩) (fun s0 H0 C cl fp => ⟨fun pins s σ H Q J k => (k s0 H0 C cl fp).run pins s J⟩) (fun s0 H0 C cl fp => ⟨fun pins s σ H Q J k => (k s0 H0 C cl fp).run pins s J⟩) hs)
    (lcR_t h hE s hI (k.kx hE) fun v d G1 H1 I1 s1 t1 h1 r1 p => k.nx _ _ G1 H1 I1 s1 t1 h1 ((hE.mono s1).set r1) p)
/-- [f x for x in xs], a list that may change -/
theorem lcRM {α : Type} {xs : List α} {g : α → D} (f : α → D) (own : List (Str × Nat)) (δ' : α → DEnv) (hi : PVI X I tg iter δ (xs.map g)) (hz : xs.length ≤ 1000000)
    (hb : ∀ (x : α) (s : Shared) (H : Hp) (C : Addr) (cl : List (Str × Addr)) (fp : List Addr), BindD (X.blk s H scope (compEnvC scope cl C X.env) fp) tg (g x) (wipeD δ (own.map (·.2))) (δ' x) (own.map (·.2)))
    (he : ∀ x, x ∈ xs → ∀ (J : Iv X.K) (s : Shared) (H : Hp) (C : Addr) (cl : List (Str × Addr)) (fp : List Addr), PV (X.blk s H scope (compEnvC scope cl C X.env) fp) (I.and J) elt (δ' x) (f x)) (pp : ∀ p, P (.adr p) (I.and (iLst X.K p (xs.map f)))) : LcR X W R elt tg iter [] scope own δ I P := by
  refine eir_d (hi W R _ ⟨by simpa using hz, fun i ys I' => ys = (xs.take i).map f ∧ I' = I, ⟨rfl, rfl⟩, fun _ _ _ _ => trivial, ?_, fun ys I' e p => ?_⟩)
  · rintro i d ys I' hd ⟨rfl, rfl⟩
    obtain ⟨x, hx, rfl⟩ := get_map hd
    refine ⟨fun b => b = true, δ' x, fun J s H C cl fp => ⟨hb x s H C cl fp, ets_nil ⟨rfl, rfl⟩⟩, fun _ J s H C cl fp => he x (List.mem_of_getElem? hx) J s H C cl fp _ _ _ ⟨I', .refl, ?_, rfl⟩, fun h => nomatch h⟩
    rw [take_snoc hx, List.map_append]; rfl
  · obtain ⟨rfl, rfl⟩ := e
    rw [List.length_map, List.take_length]
    exact pp p
/-- a list that may change, unpacked -/
theorem bind_lst {ts : List Expr} {ws : List Nat} {δ2 : DEnv} {kk : Nat} (h : BindsD X ts ds δ δ2 ws) (hc : X.calm = true := by rfl) (hn : (assignEach ts X.env).length = ds.length := by rfl) (hst : (assignEach ts X.env).findIdx? (·.1) = none := by rfl) : BindD X (.Tuple ts kk pos) (.lst ds) δ δ2 ws := fun v σ G H Q hE s ⟨a, vs, ev, e1, r⟩ q =>
  PG.wp (pg_lst hc pgsC hn hst) ⟨a, vs, ev, SqL.of (s _ _ e1), r.length, h vs σ G H Q hE s r q⟩
end
end DL
set_option Elab.async false
set_option linter.all false
set_option maxRecDepth 100000
set_option maxHeartbeats 1000000
namespace DL
open PySem PySem.Spec PyProof.Rows L2
/-! ### regions arranged anew, by a count -/
inductive IT where
  | z (i : Nat)
  | n (a b : IT)
instance (k : Nat) : OfNat IT k := ⟨.z k⟩
instance : Add IT := ⟨.n⟩
def IT.fl : IT → List Nat
  | .z i => [i]
  | .n a b => a.fl ++ b.fl
def IT.iv {K : PySem.W.Frag} (as : List (Iv K)) : IT → Iv K
  | .z i => as.getD i (iEmp K)
  | .n a b => (a.iv as).and (b.iv as)
def noDub : List Nat → Bool
  | [] => true
  | i :: l => !l.contains i && noDub l
section
variable {K : PySem.W.Frag} {as : List (Iv K)} {G H : Hp}
theorem IT.F_iff : ∀ (t : IT) (a : Addr), (t.iv as).F a ↔ ∃ i ∈ t.fl, (as.getD i (iEmp K)).F a
  | .z i, a => ⟨fun h => ⟨i, by simp [IT.fl], h⟩, fun ⟨j, hj, h⟩ => by
    have : j = i := by simpa [IT.fl] using hj
    rw [this] at h; exact h⟩
  | .n l r, a => ⟨fun h => by
    rcases h with h | h
    · obtain ⟨i, h1, h2⟩ := (IT.F_iff l a).mp h
      exact ⟨i, List.mem_append_left _ h1, h2⟩
    · obtain ⟨i, h1, h2⟩ := (IT.F_iff r a).mp h
      exact ⟨i, List.mem_append_right _ h1, h2⟩, fun ⟨i, h1, h2⟩ => by
    rcases List.mem_append.mp h1 with h1 | h1
    · exact .inl ((IT.F_iff l a).mpr ⟨i, h1, h2⟩)
    · exact .inr ((IT.F_iff r a).mpr ⟨i, h1, h2⟩)⟩
theorem IT.φ_to : ∀ (t : IT), (t.iv as).φ G H → (∀ i ∈ t.fl, (as.getD i (iEmp K)).φ G H) ∧ ∀ i ∈ t.fl, ∀ j ∈ t.fl, i ≠ j → ∀ a, ¬ ((as.getD i (iEmp K)).F a ∧ (as.getD j (iEmp K)).F a)
  | .z i, h => ⟨fun j hj => by
    have : j = i := by simpa [IT.fl] using hj
    rw [this]; exact h, fun j hj k hk hne => by
    have e1 : j = i := by simpa [IT.fl] using hj
    have e2 : k = i := by simpa [IT.fl] using hk
    exact absurd (e1.trans e2.symm) hne⟩
  | .n l r, ⟨h1, h2, h3⟩ => by
    obtain ⟨a1, a2⟩ := IT.φ_to l h1
    obtain ⟨b1, b2⟩ := IT.φ_to r h2
    refine ⟨fun i hi => (List.mem_append.mp hi).elim (a1 i) (b1 i), fun i hi j hj hne a ha => ?_⟩
    rcases List.mem_append.mp hi with hi | hi <;> rcases List.mem_append.mp hj with hj | hj
    · exact a2 i hi j hj hne a ha
    · exact h3 a ⟨(IT.F_iff l a).mpr ⟨i, hi, ha.1⟩, (IT.F_iff r a).mpr ⟨j, hj, ha.2⟩⟩
    · exact h3 a ⟨(IT.F_iff l a).mpr ⟨j, hj, ha.2⟩, (IT.F_iff r a).mpr ⟨i, hi, ha.1⟩⟩
    · exact b2 i hi j hj hne a ha
theorem noDub_app : ∀ {l m : List Nat}, noDub (l ++ m) = true → noDub l = true ∧ noDub m = true ∧ ∀ i ∈ l, i ∉ m
  | [], m, h => ⟨rfl, h, fun i hi => nomatch hi⟩
  | x :: l, m, h => by
    have h : (!(l ++ m).contains x && noDub (l ++ m)) = true := h
    obtain ⟨h1, h2⟩ := Bool.and_eq_true_iff.mp h
    obtain ⟨a, b, c⟩ := noDub_app h2
    have h3 : x ∉ l ++ m := by simpa using h1
    refine ⟨?_, b, fun i hi => ?_⟩
    · show (!l.contains x && noDub l) = true
      rw [a]
      have : x ∉ l := fun z => h3 (List.mem_append_left _ z)
      simpa using this
    · rcases List.mem_cons.mp hi with rfl | hi
      · exact fun z => h3 (List.mem_append_right _ z)
      · exact c i hi
theorem IT.φ_of : ∀ (t : IT), noDub t.fl = true → (∀ i ∈ t.fl, (as.getD i (iEmp K)).φ G H) → (∀ i ∈ t.fl, ∀ j ∈ t.fl, i ≠ j → ∀ a, ¬ ((as.getD i (iEmp K)).F a ∧ (as.getD j (iEmp K)).F a)) → (t.iv as).φ G H
  | .z i, _, h, _ => h i (by simp [IT.fl])
  | .n l r, nd, h, h2 => by
    obtain ⟨n1, n2, n3⟩ := noDub_app nd
    refine ⟨IT.φ_of l n1 (fun i hi => h i (List.mem_append_left _ hi)) fun i hi j hj => h2 i (List.mem_append_left _ hi) j (List.mem_append_left _ hj), IT.φ_of r n2 (fun i hi => h i (List.mem_append_right _ hi)) fun i hi j hj => h2 i (List.mem_append_right _ hi) j (List.mem_append_right _ hj), fun a ha => ?_⟩
    obtain ⟨i, hi, h3⟩ := (IT.F_iff l a).mp ha.1
    obtain ⟨j, hj, h4⟩ := (IT.F_iff r a).mp ha.2
    exact h2 i (List.mem_append_left _ hi) j (List.mem_append_right _ hj) (fun e => n3 i hi (e ▸ hj)) a ⟨h3, h4⟩
theorem Wk.re (as : List (Iv K)) (t u : IT) (h : ((u.fl.all fun i => t.fl.contains i || decide (as.length ≤ i)) && noDub u.fl) = true := by rfl) : Wk (t.iv as) (u.iv as) := by
  obtain ⟨h1, h2⟩ := Bool.and_eq_true_iff.mp h
  have sub : ∀ i ∈ u.fl, i ∈ t.fl ∨ as.getD i (iEmp K) = iEmp K := fun i hi => by
    have h3 := List.all_eq_true.mp h1 i hi
    rcases Bool.or_eq_true_iff.mp h3 with h4 | h4
    · exact .inl (by simpa using h4)
    · refine .inr ?_
      rw [List.getD_eq_getElem?_getD, List.getElem?_eq_none (of_decide_eq_true h4)]; rfl
  refine ⟨fun a ha => ?_, fun G H hp => ?_⟩
  · obtain ⟨i, hi, h3⟩ := (IT.F_iff u a).mp ha
    rcases sub i hi with h4 | h4
    · exact (IT.F_iff t a).mpr ⟨i, h4, h3⟩
    · rw [h4] at h3; exact h3.elim
  · obtain ⟨a1, a2⟩ := IT.φ_to t hp
    refine IT.φ_of u h2 (fun i hi => ?_) fun i hi j hj hne a ha => ?_
    · rcases sub i hi with h4 | h4
      · exact a1 i h4
      · rw [h4]; exact trivial
    · rcases sub i hi with h4 | h4
      · rcases sub j hj with h5 | h5
        · exact a2 i h4 j h5 hne a ha
        · rw [h5] at ha; exact ha.2
      · rw [h4] at ha; exact ha.1
end
end DL
set_option Elab.async false
set_option linter.all false
set_option maxRecDepth 100000
set_option maxHeartbeats 4000000
/-! slices of tuples whose objects are known -/
namespace L2
open PySem PySem.Spec PyProof.Rows
section
variable {X : Cx}
def rSlTB (K : PySem.W.Frag) : V → Option Int → Option Int → Hp → VK → Prop := fun x lo hi H Q => ∃ a xs, x = .ref a ∧ SqT K H a xs ∧
  (HT.sIx xs.length 0 lo = 0 ∧ HT.sIx xs.length xs.length hi = xs.length → Q (.ref a) H) ∧ (¬ (HT.sIx xs.length 0 lo = 0 ∧ HT.sIx xs.length xs.length hi = xs.length) → ∀ p ob, H p = none → ob.dict = none → Q (.ref p) (upd H p (.frz ob (.tup (cutV xs lo hi)))))
theorem sl_tupB : SlR X (rSlTB X.K) := by
  intro pins s σ H x v vl vu lo hi sl Q I rx hs pl pu h
  obtain ⟨a, xs, rfl, hx, q1, q2⟩ := h
  cases rx
  obtain ⟨its, r, ht, hz⟩ := I.tuple hx
  have hlen : its.toArray.size = xs.length := by rw [List.size_toArray]; exact r.length.symm
  refine ⟨"tuple", _, PyProof.Rows.slot_tuple_getitem.lookup, ht.typeIs, ?_⟩
  by_cases hw : HT.sIx xs.length 0 lo = 0 ∧ HT.sIx xs.length xs.length hi = xs.length
  · exact getItem_tuple_whole ht hs pl pu (by rw [hlen]; exact hw) ⟨.ref a, H, I, rfl, q1 hw⟩
  · refine HT.getItem_tuple_cut ht hs pl pu (by rw [hlen]; exact hw) ?_ (by rw [hlen]; exact hz)
    rw [hlen]
    refine ⟨.ref s.heap.objs.size, upd H s.heap.objs.size (.frz { cls := .type "tuple", data := .seq ((its.drop (HT.sIx xs.length 0 lo)).take (HT.sIx xs.length xs.length hi - HT.sIx xs.length 0 lo)).toArray } (.tup (cutV xs lo hi))), I.laid (t' := s.toks) (fun b ob q => Heap.get?_push_of_some _ q) (Nat.le_refl _) ?_, rfl, q2 hw _ _ (I.hok.fresh (Nat.le_refl _)) rfl⟩
    exact ⟨Heap.get?_push_size _ rfl, Nat.le_trans (cutV_length xs lo hi) hz, _, (r.drop (HT.sIx xs.length 0 lo)).take (HT.sIx xs.length xs.length hi - HT.sIx xs.length 0 lo), IsTup.new _ _⟩
end
end L2
namespace DL
open PySem PySem.Spec PyProof.Rows L2
section
variable {X : Cx} {W : WX} {R : Rx X.K} {a e : Expr} {lo hi : Option Expr} {δ : DEnv} {I : Iv X.K} {P : D → Iv X.K → Prop} {pos p2 : Pos} {ds : List D} {l h : Option Int}
theorem pv_slTB (ha : PV X I a δ (.tub ds)) (hl : PVO X I lo δ l) (hh : PVO X I hi δ h) : PV X I (.Subscript a (.Slice lo hi none p2) pos) δ (.tub (cutD ds l h)) :=
  pv_slice sl_tupB ha hl hh fun G H v Q s hI ⟨b, ob, vs, ev, e1, e2, e3⟩ q => ⟨b, vs, ev, .inl (.inr ⟨ob, s _ _ e1⟩), fun hw => q (.ref b) G H (Same.refl G) s hI ⟨b, ob, cutV vs l h, rfl, by rw [cutV_whole hw.1 hw.2]; exact e1, e2, e3.cut l h⟩, fun _ p o2 hp ho => q (.ref p) _ _ (Evl.Ex.new (s.free hp)) (same_upd2 s) (hI.keep hp s) (rep_frzB hp ho s (e3.cut l h))⟩
end
/-! ### rows that change no more -/
section
variable {K : PySem.W.Frag} {I : Iv K} {G H : Hp}
theorem freeze_rows : ∀ {qs : List Addr} {rs : List (List D)} {I : Iv K} {G : Hp}, qs.length = rs.length → Same G H → Hd (I.and (iRows K qs rs)) G H → ∃ G', Same G G' ∧ Same G' H ∧ Hd I G' H ∧ Reps K G' (rs.map D.lst) (qs.map V.ref)
  | [], [], I, G, _, s, h => ⟨G, Same.refl G, s, h.left, rfl⟩
  | q :: qs, r :: rs, I, G, hl, s, h => by
    have h1 : Hd ((I.and (iRows K qs rs)).and (iLst K q r)) G H := h.wk (Wk.re [I, iLst K q r, iRows K qs rs] (0 + (1 + 2)) (0 + 2 + 1))
    obtain ⟨G1, s1, t1, h2, r1⟩ := freeze_lst s h1
    obtain ⟨G2, s2, t2, h3, r2⟩ := freeze_rows (by simpa using hl) t1 h2
    exact ⟨G2, s1.trans s2, t2, h3, .cons (r1.mono s2) r2⟩
  | [], _ :: _, _, _, hl, _, _ => by simp at hl
  | _ :: _, [], _, _, hl, _, _ => by simp at hl
theorem reps_adr {G : Hp} : ∀ {qs : List Addr} {vs : List V}, Reps K G (qs.map D.adr) vs → vs = qs.map V.ref
  | [], _, h => h
  | q :: qs, _, ⟨v, r, e, h1, h2⟩ => by
    rw [e, show v = .ref q from h1, reps_adr h2]; rfl
/-- a list of rows that changes no more -/
theorem freeze_lrows {bl : Addr} {qs : List Addr} {rs : List (List D)} (hl : qs.length = rs.length) (s : Same G H) (h : Hd ((I.and (iRows K qs rs)).and (iLst K bl (qs.map D.adr))) G H) : ∃ G', Same G G' ∧ Same G' H ∧ Hd I G' H ∧ Rep K G' (.lst (rs.map D.lst)) (.ref bl) := by
  obtain ⟨G1, s1, t1, h1, ⟨a, vs, ev, e1, r1⟩⟩ := freeze_lst s h
  cases ev
  obtain ⟨G2, s2, t2, h2, r2⟩ := freeze_rows hl t1 h1
  rw [reps_adr r1] at e1
  exact ⟨G2, s1.trans s2, t2, h2, ⟨bl, qs.map V.ref, rfl, s2 _ _ e1, r2⟩⟩
end
end DL
set_option Elab.async false
set_option linter.all false
set_option maxRecDepth 100000
set_option maxHeartbeats 4000000
namespace DL
open PySem PySem.Spec PyProof.Rows L2
/-! ### match: a text among texts -/
def MX (X : Cx) (W : WX) (cases : List MatchCase) (w : Str) (δ : DEnv) (I : Iv X.K) (κ : Ko X.K) : Prop := ∀ (σ : L2.St) (G H : Hp) (E : Ends), EnvR X.K G δ σ → Same G H → Hd I G H → KoLe X.K W E G κ →
  ∀ (pins : List (Addr × Obj)) (s : Shared) (first : Bool) (t : Tok), Inv X pins σ H s → wpAny (model X.prog X.w) X.A (matchCases cases X.env (.str w t) first) (SP X pins E) X.xe s
section
variable {X : Cx} {W : WX} {R : Rx X.K} {a b e : Expr} {δ : DEnv} {I : Iv X.K} {κ : Ko X.K} {pos p1 p2 : Pos} {w c : Str} {cases rest : List MatchCase} {body : List Stmt} {j : Nat} {d x : D} {ds : List D} {P : D → Iv X.K → Prop}
theorem mx_nil (h : κ.nx δ I) : MX X W [] w δ I κ := fun σ G H E hE sm hI k pins s first t J => wpAny_matchCases_nil ⟨σ, H, J, k.nx δ σ G H I (Same.refl G) sm hI hE h⟩
theorem mx_str (h1 : w = c → SX X W body δ I κ) (h2 : w ≠ c → MX X W rest w δ I κ) : MX X W (⟨.MatchValue (.Constant (.str c) j p1) p2, none, body⟩ :: rest) w δ I κ := fun σ G H E hE sm hI k pins s first t J => by
  refine wpAny_matchCases_cons (wpAny_matchPattern_Value ?_)
  have hp := (pv_str (X := X) (I := I) (w := c) (j := j) (pos := p1) (δ := δ) W0 R0 (fun d I' => d = .str c ∧ I' = I) ⟨rfl, rfl⟩ σ G H (fun v H' => v = .str c ∧ ∃ G', Same G G' ∧ Same G' H' ∧ Hd I G' H') hE sm hI kx0 (fun v d G' H' I' s1 t1 g1 r1 ⟨ed, ei⟩ => by
    subst ed ei
    exact ⟨r1, G', s1, t1, g1⟩)).run pins s J
  refine thn hp fun u s1 ⟨v, H1, J1, rv, ev, G1, q1, q2, q3⟩ => ?_
  subst ev
  refine thn (op_eq pins s1 σ H1 (.str w) (.str c) _ u (fun z H' => z = .bl (decide (w = c)) ∧ H' = H1) J1 ⟨t, rfl⟩ rv ⟨rfl, by simp, rfl⟩) fun z s2 ⟨v2, H2, J2, r2, e2, e3⟩ => ?_
  subst e2 e3
  obtain rfl : z = Value.bool (decide (w = c)) := r2
  refine wpAny_truthy_bool ?_
  by_cases hc : w = c
  · rw [decide_eq_true hc]
    show wpAny _ _ (assignInOrder [] []) _ _ _
    refine wpAny_assignInOrder_none ?_
    exact (h1 hc σ G1 H2 E (hE.mono q1) q2 q3 (k.mono q1)).run pins s2 J2
  · rw [decide_eq_false hc]
    exact h2 hc σ G1 H2 E (hE.mono q1) q2 q3 (k.mono q1) pins s2 false t J2
theorem s_match (h : PV X I e δ (.str w)) (m : MX X W cases w δ I κ) : S1 X W (.Match e cases pos) δ I κ := fun σ G H E hE sm hI k => ⟨fun pins s J => wpAny_Match (by
  have hp := (h W0 R0 (fun d I' => d = .str w ∧ I' = I) ⟨rfl, rfl⟩ σ G H (fun v H' => v = .str w ∧ ∃ G', Same G G' ∧ Same G' H' ∧ Hd I G' H') hE sm hI kx0 (fun v d G' H' I' s1 t1 g1 r1 ⟨ed, ei⟩ => by
    subst ed ei
    exact ⟨r1, G', s1, t1, g1⟩)).run pins s J
  refine thn hp fun u s1 ⟨v, H1, J1, rv, ev, G1, q1, q2, q3⟩ => ?_
  subst ev
  obtain ⟨t, rfl⟩ := (show ∃ t, u = Value.str w t from rv)
  exact m σ G1 H1 E (hE.mono q1) q2 q3 (k.mono q1) pins s1 true t J1)⟩
/-- xs * n, a list that may change -/
theorem o2_repM {K : PySem.W.Frag} {I : Iv K} {P : D → Iv K → Prop} {n : Nat} (li : LsI I x ds) (hz : ds.length * n ≤ 100000) (hn : n ≤ 100000) (pp : ∀ p, P (.adr p) (I.and (iLst K p (List.replicate n ds).flatten))) : Op2 K rRep x (.int n) I P := fun G H v w Q s hI r1 r2 q => by
  obtain ⟨a, vs, ev, h1, rr⟩ := li.h G H v s hI r1
  refine ⟨a, n, vs, ev, r2, h1, by omega, by omega, by rw [rr.length, sizeLine_eq, Int.toNat_natCast]; omega, fun p hp => ?_⟩
  rw [Int.toNat_natCast]
  have hg : G p = none := s.free hp
  have na : ∀ a, ¬ (I.F a ∧ a = p) := fun a ha => hI.dom ha.1 (by rw [ha.2]; exact hp)
  exact q (.ref p) (.adr p) G _ (I.and (iLst K p (List.replicate n ds).flatten)) (Same.refl G) (same_upd s hg) (Hd.mk2 (hI.newp hp) ⟨⟨_, upd_same, _, rfl, reps_rep rr n⟩, fun a ha => by rw [show a = p from ha]; exact hg⟩ na) rfl (pp p)
end
end DL
set_option Elab.async false
set_option linter.all false
set_option maxRecDepth 100000
set_option maxHeartbeats 4000000
namespace DL
open PySem PySem.Spec PyProof.Rows L2
section
variable {X : Cx} {W : WX} {R : Rx X.K} {a : Expr} {lo hi : Option Expr} {δ : DEnv} {I : Iv X.K} {pos p2 : Pos} {P : D → Iv X.K → Prop}
/-- a slice of a tuple, its bounds may draw -/
theorem ev_slTB (h : EvX X W R a δ I fun d I1 => ∃ ds, d = .tub ds ∧ EvO X W R lo δ I1 fun l I2 => EvO X W R hi δ I2 fun h I3 => P (.tub (cutD ds l h)) I3) : EvX X W R (.Subscript a (.Slice lo hi none p2) pos) δ I P := fun σ G H Q hE s hI qx q =>
  PE.wp (pe_slice sl_tupB peC poC poC) (h σ G H _ hE s hI qx fun v d G1 H1 I1 s1 t1 g1 r1 ⟨ds, ed, k1⟩ => by
    subst ed
    refine k1 σ G1 H1 _ (hE.mono s1) t1 g1 (qx.mono s1) fun l G2 H2 I2 s2 t2 g2 k2 => ?_
    refine k2 σ G2 H2 _ (hE.mono (s1.trans s2)) t2 g2 (qx.mono (s1.trans s2)) fun h G3 H3 I3 s3 t3 g3 pp => ?_
    obtain ⟨b, ob, vs, ev, e1, e2, e3⟩ := (r1.mono s2).mono s3
    have s13 := (s1.trans s2).trans s3
    exact ⟨b, vs, ev, .inl (.inr ⟨ob, t3 _ _ e1⟩), fun hw => q (.ref b) (.tub (cutD ds l h)) G3 H3 I3 s13 t3 g3 ⟨b, ob, cutV vs l h, rfl, by rw [cutV_whole hw.1 hw.2]; exact e1, e2, e3.cut l h⟩ pp,
      fun _ p o2 hp ho => q (.ref p) (.tub (cutD ds l h)) _ _ I3 (s13.trans (Evl.Ex.new (t3.free hp))) (same_upd2 t3) (g3.keep hp t3) (rep_frzB hp ho t3 (e3.cut l h)) pp⟩)
end
/-- xs * n, a list that changes no more -/
theorem p2_repK {K : PySem.W.Frag} {I : Iv K} {ds : List D} {n : Nat} (hz : ds.length * n ≤ 100000) (hn : n ≤ 100000) : P2 K I rRep (.lst ds) (.int n) (.lst (List.replicate n ds).flatten) := fun P pp G H v w Q s hI ⟨a, vs, ev, e1, rr⟩ r2 q => by
  refine ⟨a, n, vs, ev, r2, s _ _ e1, by omega, by omega, by rw [rr.length, sizeLine_eq, Int.toNat_natCast]; omega, fun p hp => ?_⟩
  rw [Int.toNat_natCast]
  have hg : G p = none := s.free hp
  exact q (.ref p) (.lst (List.replicate n ds).flatten) (upd G p (.lst (List.replicate n vs).flatten)) _ I (Evl.Ex.new hg) (same_upd2 s) (hI.keep hp s) ⟨p, _, rfl, upd_same, (reps_rep rr n).mono (Evl.Ex.new hg)⟩ pp
theorem PVI.is {X : Cx} {I : Iv X.K} {tg iter : Expr} {δ : DEnv} {ds es : List D} (h : PVI X I tg iter δ ds) (q : ds = es) : PVI X I tg iter δ es := q ▸ h
section
variable {X : Cx} {I : Iv X.K} {e : Expr} {δ : DEnv} {d : D} {pos p : Pos} {j : Nat}
theorem pt_isN (h : PV X I e δ d) : PVT X I (.Compare e [.Is] [.Constant .none j p] pos) δ (nonB d) :=
  pt_cmp op_isN h pv_non fun P pp G H v w Q s hI r1 r2 q => ⟨r2, by rw [rep_non r1]; exact q _ (.bl (nonB d)) G H I (Same.refl G) s hI rfl pp⟩
theorem pt_notN (h : PV X I e δ d) : PVT X I (.Compare e [.IsNot] [.Constant .none j p] pos) δ (!nonB d) :=
  pt_cmp op_notN h pv_non fun P pp G H v w Q s hI r1 r2 q => ⟨r2, by rw [rep_non r1]; exact q _ (.bl (!nonB d)) G H I (Same.refl G) s hI rfl pp⟩
end
end DL
set_option Elab.async false
set_option linter.all false
set_option maxRecDepth 100000
set_option maxHeartbeats 1000000
namespace LK
open PySem PySem.Spec PyProof.Rows L2 DL
/-! ### things that are no gaps, no lines -/
inductive Odd (G : List (Str × Nat)) : D → Prop
  | non : Odd G .non
  | int (i : Int) : Odd G (.int i)
  | str (s : Str) (h : PyData.strOk s = true) : Odd G (.str s)
  | lst (ds : List D) (h : OkD 64 (.lst ds)) : Odd G (.lst ds)
  | tup (ds : List D) (h : ds.length ≠ 2) (k : OkD 64 (.tup ds)) : Odd G (.tup ds)
  | bl (s : Str) (b : Bool) (h : PyData.strOk s = true) : Odd G (.tup [.str s, .bl b])
  | ss (s r : Str) (h : PyData.strOk s = true) (k : PyData.strOk r = true) : Odd G (.tup [.str s, .str r])
  | pr (s : Str) (i : Int) (h : PyData.strOk s = true) (k : ∀ g ∈ G, ¬ (g.1 = s ∧ (g.2 : Int) = i)) : Odd G (.tup [.str s, .int i])
/-- is it a text and an integer? -/
def isPr : D → Bool
  | .tup [.str _, .int _] => true
  | _ => false
theorem isPr_len {ds : List D} (h : ds.length ≠ 2) : isPr (.tup ds) = false := by
  match ds, h with
  | [], _ => rfl
  | [a], _ => cases a <;> rfl
  | [a, b], h => exact absurd rfl h
  | a :: b :: c :: r, _ =>
    unfold isPr
    split
    · rename_i e; cases e
    · rfl
theorem Odd.ok {G : List (Str × Nat)} {x : D} (h : Odd G x) : OkD 64 x := by
  cases h with
  | non => exact .non
  | int i => exact .int
  | str s h => exact .str h
  | lst ds h => exact h
  | tup ds h k => exact k
  | bl s b h => exact (OkD.t2 (.str h) .bl).mono (by decide : 1 ≤ 64)
  | ss s r h k => exact (OkD.t2 (.str h) (.str k)).mono (by decide : 1 ≤ 64)
  | pr s i h k => exact (OkD.t2 (.str h) .int).mono (by decide : 1 ≤ 64)
def sIsIntX {K : PySem.W.Frag} : Spec K := fun I ds P _ => (∃ b : Bool, ds = [.bl b] ∧ P (.bl false) I) ∨ (∃ s : Str, ds = [.str s] ∧ P (.bl false) I) ∨ ∃ n : Int, ds = [.int n] ∧ P (.bl true) I
def sIsPairX {K : PySem.W.Frag} : Spec K := fun I ds P _ => ∃ G x, ds = [x] ∧ Odd G x ∧ P (.bl (isPr x)) I
section
variable {P : Program} {w : World} {K : PySem.W.Frag} {mg : Str → Option Value} {base : Heap}
theorem D_is_integerX (E : Env P w K mg base) : Def P w K mg base "is_integer" 1 ["value"] [] sIsIntX := mk_f_is_integer E fun fd F => by
  refine fn_d F sc_f_is_integer (fun I ds P R h => by rcases h with ⟨_, rfl, _⟩ | ⟨_, rfl, _⟩ | ⟨_, rfl, _⟩ <;> rfl) fun cdv A outer s H EE hr tk po I ds Q R h => ?_
  rcases h with ⟨b, rfl, q⟩ | ⟨z, rfl, q⟩ | ⟨n, rfl, q⟩
  · exact s_one (s_retP (pv_andT (pv_cb call_isi E.b_isinstance (va_cons (pv_v (d := .bl b) 0) (va_cons (pv_gty (n := "int") E.b_int) va_nil)) (pn_isiT (t := "bool") rfl)) (pv_one (pv_not (k := true) (pv_cb call_isi E.b_isinstance (va_cons (pv_v (d := .bl b) 0) (va_cons (pv_gty (n := "bool") E.b_bool) va_nil)) (pn_isiT (t := "bool") rfl))))) q)
  · exact s_one (s_retP (pv_andB (k := false) (l := false) (pv_cb call_isi E.b_isinstance (va_cons (pv_v (d := .str z) 0) (va_cons (pv_gty (n := "int") E.b_int) va_nil)) (pn_isiF (t := "str") rfl (by decide +kernel))) (fun h => nomatch h)) q)
  · exact s_one (s_retP (pv_andT (pv_cb call_isi E.b_isinstance (va_cons (pv_v (d := .int n) 0) (va_cons (pv_gty (n := "int") E.b_int) va_nil)) (pn_isiT (t := "int") rfl)) (pv_one (pv_not (k := false) (pv_cb call_isi E.b_isinstance (va_cons (pv_v (d := .int n) 0) (va_cons (pv_gty (n := "bool") E.b_bool) va_nil)) (pn_isiF (t := "int") rfl (by decide +kernel)))))) q)
theorem D_is_pairX (E : Env P w K mg base) : Def P w K mg base "is_pair" 2 ["value"] [] sIsPairX := mk_f_is_pair E fun fd F => by
  refine fn_d F sc_f_is_pair (fun I ds P R h => by obtain ⟨G, x, rfl, _⟩ := h; rfl) fun cdv A outer s H EE hr tk po I ds Q R h => ?_
  obtain ⟨G, x, rfl, ox, q⟩ := h
  have hu := hr.units
  have hr1 : Room 1 _ := hr
  cases ox with
  | non => exact s_one (s_retP (pv_andB (k := false) (l := false) (pv_cb call_isi E.b_isinstance (va_cons (pv_v (d := .non) 0) (va_cons (pv_gty (n := "tuple") E.b_tuple) va_nil)) (pn_isiF (t := "NoneType") rfl (by decide +kernel))) (fun h => nomatch h)) q)
  | int i => exact s_one (s_retP (pv_andB (k := false) (l := false) (pv_cb call_isi E.b_isinstance (va_cons (pv_v (d := .int i) 0) (va_cons (pv_gty (n := "tuple") E.b_tuple) va_nil)) (pn_isiF (t := "int") rfl (by decide +kernel))) (fun h => nomatch h)) q)
  | str z h => exact s_one (s_retP (pv_andB (k := false) (l := false) (pv_cb call_isi E.b_isinstance (va_cons (pv_v (d := .str z) 0) (va_cons (pv_gty (n := "tuple") E.b_tuple) va_nil)) (pn_isiF (t := "str") rfl (by decide +kernel))) (fun h => nomatch h)) q)
  | lst ds h => exact s_one (s_retP (pv_andB (k := false) (l := false) (pv_cb call_isi E.b_isinstance (va_cons (pv_v (d := .lst ds) 0) (va_cons (pv_gty (n := "tuple") E.b_tuple) va_nil)) (pn_isiF (t := "list") rfl (by decide +kernel))) (fun h => nomatch h)) q)
  | tup ds h k =>
    rw [isPr_len h] at q
    exact s_one (s_retP (pv_andT (pv_cb call_isi E.b_isinstance (va_cons (pv_v (d := .tup ds) 0) (va_cons (pv_gty (n := "tuple") E.b_tuple) va_nil)) (pn_isiT (t := "tuple") rfl)) (pv_andB (k := false) (l := false) (PV.is (pv_eq hu (pv_len E.b_len (pv_v (d := .tup ds) 0) trivial) pv_int trivial) (congrArg D.bl (decide_eq_false (by omega)))) (fun h => nomatch h))) q)
  | bl z b h => exact s_one (s_retP (pv_andT (pv_cb call_isi E.b_isinstance (va_cons (pv_v (d := .tup [.str z, .bl b]) 0) (va_cons (pv_gty (n := "tuple") E.b_tuple) va_nil)) (pn_isiT (t := "tuple") rfl)) (pv_andT (PV.is (pv_eq hu (pv_len E.b_len (pv_v (d := .tup [.str z, .bl b]) 0) trivial) pv_int trivial) rfl) (pv_andT (pv_cb call_isi E.b_isinstance (va_cons (pv_ix ix_tup (pv_v (d := .tup [.str z, .bl b]) 0) pv_int (p2_ixT rfl)) (va_cons (pv_gty (n := "str") E.b_str) va_nil)) (pn_isiT (t := "str") rfl)) (pv_one (pv_def (D_is_integerX E) hr1 (va_cons (pv_ix ix_tup (pv_v (d := .tup [.str z, .bl b]) 0) pv_int (p2_ixT rfl)) va_nil) fun P pp => .inl ⟨b, rfl, pp⟩))))) q)
  | ss z r h k => exact s_one (s_retP (pv_andT (pv_cb call_isi E.b_isinstance (va_cons (pv_v (d := .tup [.str z, .str r]) 0) (va_cons (pv_gty (n := "tuple") E.b_tuple) va_nil)) (pn_isiT (t := "tuple") rfl)) (pv_andT (PV.is (pv_eq hu (pv_len E.b_len (pv_v (d := .tup [.str z, .str r]) 0) trivial) pv_int trivial) rfl) (pv_andT (pv_cb call_isi E.b_isinstance (va_cons (pv_ix ix_tup (pv_v (d := .tup [.str z, .str r]) 0) pv_int (p2_ixT rfl)) (va_cons (pv_gty (n := "str") E.b_str) va_nil)) (pn_isiT (t := "str") rfl)) (pv_one (pv_def (D_is_integerX E) hr1 (va_cons (pv_ix ix_tup (pv_v (d := .tup [.str z, .str r]) 0) pv_int (p2_ixT rfl)) va_nil) fun P pp => .inr (.inl ⟨r, rfl, pp⟩)))))) q)
  | pr z i h k => exact s_one (s_retP (pv_andT (pv_cb call_isi E.b_isinstance (va_cons (pv_v (d := .tup [.str z, .int i]) 0) (va_cons (pv_gty (n := "tuple") E.b_tuple) va_nil)) (pn_isiT (t := "tuple") rfl)) (pv_andT (PV.is (pv_eq hu (pv_len E.b_len (pv_v (d := .tup [.str z, .int i]) 0) trivial) pv_int trivial) rfl) (pv_andT (pv_cb call_isi E.b_isinstance (va_cons (pv_ix ix_tup (pv_v (d := .tup [.str z, .int i]) 0) pv_int (p2_ixT rfl)) (va_cons (pv_gty (n := "str") E.b_str) va_nil)) (pn_isiT (t := "str") rfl)) (pv_one (pv_def (D_is_integerX E) hr1 (va_cons (pv_ix ix_tup (pv_v (d := .tup [.str z, .int i]) 0) pv_int (p2_ixT rfl)) va_nil) fun P pp => .inr (.inr ⟨i, rfl, pp⟩)))))) q)
end
/-- among things that are pairs there is no odd pair -/
theorem Odd.notIn {G : List (Str × Nat)} {x : D} (h : Odd G x) (hp : isPr x = true) : ((G.map pairD).any fun y => eqD y x) = false := by
  cases h with
  | pr s i h k =>
    rw [List.any_eq_false]
    intro y hy
    obtain ⟨g, hg, rfl⟩ := List.mem_map.mp hy
    have h2 := k g hg
    unfold pairD
    simp only [eqD_tup, eqDs, eqD_str, eqD_int, Bool.and_true, Bool.and_eq_true, decide_eq_true_eq]
    exact fun z => h2 z
  | tup ds h k => rw [isPr_len h] at hp; cases hp
  | non => cases hp
  | int i => cases hp
  | str s h => cases hp
  | lst ds h => cases hp
  | bl s b h => cases hp
  | ss s r h k => cases hp
def sHoldsX {K : PySem.W.Frag} : Spec K := fun I ds _ R => ∃ (t : Tb) (pre : List (Str × Nat)) (x : D) (rest : List D), ds = [cD K t, .lst (pre.map pairD ++ x :: rest)] ∧ TbOk t ∧ (∀ g ∈ pre, g ∈ gapsT t) ∧ Odd (gapsT t) x ∧ R (He.ga K "WrongGap") [("gap", x)] I
section
variable {P : Program} {w : World} {K : PySem.W.Frag} {mg : Str → Option Value} {base : Heap}
theorem D_holdsX (E : Env P w K mg base) : Def P w K mg base "holds_of" 4 ["cast", "holds"] [] sHoldsX := mk_f_holds_of E fun fd F => by
  refine fn_d F sc_f_holds_of (fun I ds P R h => by obtain ⟨t, pre, x, rest, rfl, _⟩ := h; rfl) fun cdv A outer s H EE hr tk po I ds Q R h => ?_
  obtain ⟨t, pre, x, rest, rfl, o, hl, ox, q⟩ := h
  have nd := sc_f_holds_of.nd
  have hu65 := hr.u65
  have hr2 : Room 2 _ := hr.mono (by decide)
  have hr3 : Room 3 _ := hr
  refine s_cons (s_set 2 (ev_freezeL (ev_gaps E tk hr3 (pv_v (d := cD K t) 0) o fun a => ⟨a, _, _, rfl, rfl, ?_⟩)))
  have hgk : ∀ d ∈ (gapsT t).map pairD, OkD 64 d := OkD.map fun g hg => (okD_pair (o.gapOk g hg)).mono (by decide)
  refine s_cons (s_forT (xs := pre.map pairD ++ x :: rest) (g := fun d => d) po (PVI.is (vi_lst (pv_v (d := .lst (pre.map pairD ++ x :: rest)) 1)) (List.map_id' _).symm) (fun p δ' I' => p.length ≤ pre.length ∧ I' = I ∧ ∃ o3, δ' = [some (cD K t), some (.lst (pre.map pairD ++ x :: rest)), some (.lst ((gapsT t).map pairD)), o3]) ⟨Nat.zero_le _, rfl, none, rfl⟩ ?_ ?_)
  · rintro p z r δ' I' e ⟨hpl, rfl, o3, rfl⟩
    refine ⟨_, [3], bind_name 3, ?_⟩
    by_cases hlt : p.length < pre.length
    · obtain ⟨g, hg, rfl⟩ : ∃ g ∈ pre, z = pairD g := by
        have h1 : (pre.map pairD ++ x :: rest)[p.length]? = some z := by rw [e]; simp
        rw [List.getElem?_append_left (by rw [List.length_map]; exact hlt), List.getElem?_map] at h1
        cases h2 : pre[p.length]? with
        | none => rw [h2] at h1; cases h1
        | some g => rw [h2] at h1; cases h1; exact ⟨g, List.mem_of_getElem? h2, rfl⟩
      refine s_one (s_ifF (ptw (ww_orF (ptn (k := true) (pt_v (pv_def (D_is_pair E) hr2 (va_cons (pv_v (d := pairD g) 3) va_nil) fun P pp => ⟨g, rfl, pp⟩))) (ww_or1 (PVT.is (pt_nin hu65 (pv_w (d := .tup [.str g.1, .int g.2]) 3 rfl) (pv_w (d := .lst ((gapsT t).map pairD)) 2 rfl) ⟨(okD_pair (q := g) (o.gapOk g (hl g hg))).mono (by decide), hgk⟩) ?_)))) (s_nil ⟨?_, rfl, _, rfl⟩))
      · have := inj_pair.any g (gapsT t)
        rw [show (((gapsT t).map pairD).any fun y => eqD y (.tup [.str g.1, .int g.2])) = decide (g ∈ gapsT t) from this.trans (by congr), decide_eq_true (hl g hg)]; rfl
      · rw [List.length_append]; simp; omega
    · have hpe : p.length = pre.length := by omega
      have hz : z = x := by
        have h1 : (pre.map pairD ++ x :: rest)[p.length]? = some z := by rw [e]; simp
        rw [List.getElem?_append_right (by rw [List.length_map]; omega), List.length_map, hpe, Nat.sub_self] at h1
        cases h1; rfl
      subst hz
      refine s_one (s_ifP (b := true) ?_ (fun _ => s_one (s_rz (hr := hr2) tk E.x_WrongGap E.ini_WrongGap (ea_cons ((pv_v (d := z) 3).ev (ea_nil ⟨rfl, by simp, q⟩))))) fun h => nomatch h)
      cases hb : isPr z with
      | false => exact PVT.is (ptw (ww_or (l := false) (ptn (k := false) (pt_v (pv_def (D_is_pairX E) hr2 (va_cons (pv_v (d := z) 3) va_nil) fun P pp => ⟨gapsT t, z, rfl, ox, by rw [hb]; exact pp⟩))) (fun h => nomatch h))) rfl
      | true =>
        have hno := ox.notIn hb
        exact ptw (ww_orF (ptn (k := true) (pt_v (pv_def (D_is_pairX E) hr2 (va_cons (pv_v (d := z) 3) va_nil) fun P pp => ⟨gapsT t, z, rfl, ox, by rw [hb]; exact pp⟩))) (ww_or1 (PVT.is (pt_nin (E := InC.data rfl) hu65 (pv_v (d := z) 3) (pv_v (d := .lst ((gapsT t).map pairD)) 2) ⟨ox.ok, hgk⟩) (by rw [hno]; rfl))))
  · rintro δ' I' ⟨hpl, _⟩
    exfalso
    rw [List.length_append, List.length_map, List.length_cons] at hpl
    omega
end
end LK
set_option Elab.async false
set_option linter.all false
set_option maxRecDepth 100000
set_option maxHeartbeats 1000000
namespace LK
open PySem PySem.Spec PyProof.Rows L2 DL
/-! ### how many orders there are -/
theorem Small.tot {t : Tb} (o : TbOk t) (sm : Small t) : total t ≤ 18 := by
  have h : ∀ {s : Tb}, (∀ p ∈ s, p ∈ t) → total s ≤ 3 * s.length := by
    intro s
    induction s with
    | nil => intro _; simp [total]
    | cons p s ih =>
      intro h
      have h1 := sm.s p (h p (by simp))
      have h2 := ih fun q hq => h q (by simp [hq])
      show p.2.length + total s ≤ 3 * (s.length + 1)
      omega
  have := h (s := t) fun p hp => hp
  have := o.m
  omega
theorem MemoOk.nil {t : Tb} {hs : List (Str × Nat)} : MemoOk t hs [] := ⟨List.nodup_nil, fun p hp => nomatch hp⟩
theorem holdsN_ok {t : Tb} (o : TbOk t) (l : List (Str × Nat)) : ∀ g ∈ holdsN t l, PyData.strOk g.1 = true := fun g hg => o.gapOk g (List.mem_filter.mp hg).1
def sOCount {K : PySem.W.Frag} : Spec K := fun I ds P _ => ∃ t l d, ds = [cD K t, d] ∧ (d = .lst (l.map pairD) ∨ d = .tup (l.map pairD)) ∧ TbOk t ∧ Small t ∧ (∀ g ∈ l, g ∈ gapsT t) ∧ l.length ≤ 1000 ∧ P (.int (cnt t (holdsN t l) (st0 t).1 (st0 t).2)) I
section
variable {X : Cx} {W : WX} {R : Rx X.K} {I : Iv X.K} {o a b : Expr} {δ : DEnv} {PP : D → Iv X.K → Prop} {pos apos : Pos} {c : Rc X.K} {x dx q : Addr} {t : Tb} {hs : List (Str × Nat)} {kds : List (NestedKey × D)} {cs : List Nat} {n : Str}
theorem ev_count {pl : Sem Bool} (E : Env X.prog X.w X.K X.mg X.base) (tk : Takes X W) (hr : Room 24 X.A) (ho : PV X (c.fill (iCM X.prog X.w X.K x dx q t hs kds)) o δ (.adr x)) (ha : PV X (c.fill (iCM X.prog X.w X.K x dx q t hs kds)) a δ (csD cs)) (hb : PV X (c.fill (iCM X.prog X.w X.K x dx q t hs kds)) b δ (.str n)) (ok : TbOk t) (sm : Small t) (hk : ∀ g ∈ hs, PyData.strOk g.1 = true) (mo : MemoOk t hs kds) (v : VS t cs n)
    (pp : ∀ kds', MemoOk t hs kds' → PP (.int (cnt t hs cs n)) (c.fill (iCM X.prog X.w X.K x dx q t hs kds')))
    (hst : starEach [a, b] X.env = (false, eval a X.env) :: starEach [b] X.env := by rfl) (hst2 : starEach [b] X.env = (false, eval b X.env) :: starEach [] X.env := by rfl) (hpl : (backTo pos (starEach [b] X.env)).any (·.1) = false := by rfl)
    (ht : eval (.Call (.Attribute o "count_from" apos) [a, b] [] pos) X.env = (do
      let ov ← eval o X.env
      standAt apos.atName
      let (f, first) ← holding [ov] (getMethod ov "count_from" pl)
      callWith pos f first (backTo pos (starEach [a, b] X.env)) (backToKw pos (keywordEach [] X.env))) := by rfl) : EvX X W R (.Call (.Attribute o "count_from" apos) [a, b] [] pos) δ (c.fill (iCM X.prog X.w X.K x dx q t hs kds)) PP :=
  ev_methA tk (E_plgO E) E.h_Course_count_from.f E.h_Course_count_from.i E.h_Course_count_from.k (M_count E 18) hr (ho.ev ⟨icm_coi.ins, ea_cons (ha.ev (ea_cons (hb.ev (ea_nil ⟨c, x, dx, q, t, hs, kds, cs, n, rfl, rfl, ok, sm, hk, mo, v, by have := sm.tot ok; omega, fun kds' m' _ => pp kds' m'⟩)) hst2)) hst⟩) hst hpl ht
end
section
variable {P : Program} {w : World} {K : PySem.W.Frag} {mg : Str → Option Value} {base : Heap}
end
end LK
set_option Elab.async false
set_option linter.all false
set_option maxRecDepth 100000
set_option maxHeartbeats 1000000
namespace LK
open PySem PySem.Spec PyProof.Rows L2 DL
/-! ### all orders, written out -/
def allO (t : Tb) (hs : List (Str × Nat)) : Nat → List Nat → Str → List (List Str)
  | 0, cs, _ => if cs.sum = total t then [[]] else []
  | n + 1, cs, b => if cs.sum = total t then [[]] else (readyS t cs b).flatMap fun m => (allO t hs n (afterC t cs m) (afterB t hs cs m)).map (m :: ·)
def allF (t : Tb) (hs : List (Str × Nat)) (s : List Nat × Str) : List (List Str) := allO t hs (total t - s.1.sum) s.1 s.2
theorem allO_len {t : Tb} {hs : List (Str × Nat)} : ∀ (n : Nat) (cs : List Nat) (b : Str), (allO t hs n cs b).length = cntS t hs n cs b
  | 0, cs, b => by
    show (if cs.sum = total t then [[]] else ([] : List (List Str))).length = if cs.sum = total t then 1 else 0
    split <;> rfl
  | n + 1, cs, b => by
    show (if cs.sum = total t then [[]] else (readyS t cs b).flatMap fun m => (allO t hs n (afterC t cs m) (afterB t hs cs m)).map (m :: ·)).length = if cs.sum = total t then 1 else _
    split
    · rfl
    · rw [List.length_flatMap]
      refine congrArg List.sum (List.map_congr_left fun m _ => ?_)
      rw [List.length_map, allO_len n]
theorem allF_len {t : Tb} {hs : List (Str × Nat)} (s : List Nat × Str) : (allF t hs s).length = cnt t hs s.1 s.2 := allO_len _ _ _
theorem allF_whole {t : Tb} {hs : List (Str × Nat)} {s : List Nat × Str} (h : s.1.sum = total t) : allF t hs s = [[]] := by
  unfold allF
  rw [h, Nat.sub_self]
  show (if s.1.sum = total t then [[]] else ([] : List (List Str))) = [[]]
  rw [if_pos h]
theorem allF_step {t : Tb} (o : TbOk t) {hs : List (Str × Nat)} {s : List Nat × Str} (v : VS t s.1 s.2) (h : s.1.sum ≠ total t) : allF t hs s = (readyS t s.1 s.2).flatMap fun m => (allF t hs (afterC t s.1 m, afterB t hs s.1 m)).map (m :: ·) := by
  have hs' := v.sum
  obtain ⟨n, hn⟩ : ∃ n, total t - s.1.sum = n + 1 := ⟨total t - s.1.sum - 1, by omega⟩
  unfold allF
  rw [hn]
  show (if s.1.sum = total t then [[]] else _) = _
  rw [if_neg h]
  have e : ∀ m ∈ readyS t s.1 s.2, (allO t hs n (afterC t s.1 m) (afterB t hs s.1 m)).map (m :: ·) = (allO t hs (total t - (afterC t s.1 m).sum) (afterC t s.1 m) (afterB t hs s.1 m)).map (m :: ·) := fun m hm => by
    have h2 := (v.after o (hs := hs) hm).2
    rw [h2, show total t - (s.1.sum + 1) = n by omega]
  rw [List.flatMap_def, List.flatMap_def, List.map_congr_left e]
/-- where a beginning leads -/
def stO (t : Tb) (hs : List (Str × Nat)) (ns : List Str) : List Nat × Str := ns.foldl (fun s n => (afterC t s.1 n, afterB t hs s.1 n)) (st0 t)
theorem stO_snoc {t : Tb} {hs : List (Str × Nat)} (ns : List Str) (m : Str) : stO t hs (ns ++ [m]) = (afterC t (stO t hs ns).1 m, afterB t hs (stO t hs ns).1 m) := by
  unfold stO; rw [List.foldl_append]; rfl
/-- all beginnings of k names -/
def prefO (t : Tb) (hs : List (Str × Nat)) : Nat → List (List Str)
  | 0 => [[]]
  | k + 1 => (prefO t hs k).flatMap fun ns => (readyS t (stO t hs ns).1 (stO t hs ns).2).map fun m => ns ++ [m]
theorem st0_sum (t : Tb) : (st0 t).1.sum = 0 := by
  unfold st0
  show (List.replicate t.length 0).sum = 0
  simp
theorem prefO_ok {t : Tb} (o : TbOk t) {hs : List (Str × Nat)} : ∀ (k : Nat) (ns : List Str), ns ∈ prefO t hs k → VS t (stO t hs ns).1 (stO t hs ns).2 ∧ (stO t hs ns).1.sum = k ∧ ns.length = k
  | 0, ns, h => by
    have e : ns = [] := by simpa [prefO] using h
    subst e
    exact ⟨VS.start t, st0_sum t, rfl⟩
  | k + 1, ns, h => by
    obtain ⟨p, hp, hn⟩ := List.mem_flatMap.mp h
    obtain ⟨m, hm, rfl⟩ := List.mem_map.mp hn
    obtain ⟨v, hsum, hl⟩ := prefO_ok o k p hp
    rw [stO_snoc]
    obtain ⟨v2, s2⟩ := v.after o (hs := hs) hm
    exact ⟨v2, by rw [s2, hsum], by simp [hl]⟩
theorem pref_all {t : Tb} (o : TbOk t) {hs : List (Str × Nat)} : ∀ k : Nat, k ≤ total t → allF t hs (st0 t) = (prefO t hs k).flatMap fun ns => (allF t hs (stO t hs ns)).map (ns ++ ·)
  | 0, _ => by
    show _ = [[]].flatMap _
    simp only [List.flatMap_cons, List.flatMap_nil, List.append_nil]
    show _ = (allF t hs (st0 t)).map ([] ++ ·)
    simp
  | k + 1, hk => by
    rw [pref_all o k (by omega)]
    show _ = ((prefO t hs k).flatMap fun ns => (readyS t (stO t hs ns).1 (stO t hs ns).2).map fun m => ns ++ [m]).flatMap _
    rw [List.flatMap_assoc]
    have e : ∀ ns ∈ prefO t hs k, (allF t hs (stO t hs ns)).map (ns ++ ·) = ((readyS t (stO t hs ns).1 (stO t hs ns).2).map fun m => ns ++ [m]).flatMap fun ms => (allF t hs (stO t hs ms)).map (ms ++ ·) := fun ns hns => by
      obtain ⟨v, hsum, _⟩ := prefO_ok o k ns hns
      rw [allF_step o v (by omega), List.map_flatMap, List.flatMap_map]
      simp only [List.map_map]
      rw [List.flatMap_def, List.flatMap_def]
      refine congrArg List.flatten (List.map_congr_left fun m _ => ?_)
      rw [stO_snoc]
      refine List.map_congr_left fun r _ => ?_
      simp
    rw [List.flatMap_def, List.flatMap_def, List.map_congr_left e]
theorem pref_total {t : Tb} (o : TbOk t) {hs : List (Str × Nat)} : prefO t hs (total t) = allF t hs (st0 t) := by
  rw [pref_all o (total t) (Nat.le_refl _)]
  have e : ∀ ns ∈ prefO t hs (total t), (allF t hs (stO t hs ns)).map (ns ++ ·) = [ns] := fun ns hns => by
    rw [allF_whole (prefO_ok o _ ns hns).2.1]
    simp
  rw [List.flatMap_def, List.map_congr_left e]
  have : ∀ l : List (List Str), (l.map fun x => [x]).flatten = l := fun l => by
    induction l with
    | nil => rfl
    | cons a l ih => rw [List.map_cons, List.flatten_cons, ih]; rfl
  rw [this]
end LK
set_option Elab.async false
set_option linter.all false
set_option maxRecDepth 100000
set_option maxHeartbeats 400000
namespace LK
open PySem PySem.Spec PyProof.Rows L2 DL
/-! ### the number of an order, step by step -/
theorem fm_get {α β : Type} (f : α → List β) : ∀ (pre : List α) (m : α) (r : List α) (k : Nat), k < (f m).length → ((pre ++ m :: r).flatMap f)[((pre.map fun a => (f a).length).sum) + k]? = (f m)[k]?
  | [], m, r, k, h => by
    simp only [List.nil_append, List.flatMap_cons, List.map_nil, List.sum_nil, Nat.zero_add]
    exact List.getElem?_append_left h
  | a :: pre, m, r, k, h => by
    have ih := fm_get f pre m r k h
    simp only [List.cons_append, List.flatMap_cons, List.map_cons, List.sum_cons]
    rw [List.getElem?_append_right (by omega), ← ih]
    congr 1
    omega
/-- how many orders come ahead of those that go on with a name behind pre -/
def ahead (t : Tb) (hs : List (Str × Nat)) (s : List Nat × Str) (pre : List Str) : Nat := (pre.map fun m => cnt t hs (afterC t s.1 m) (afterB t hs s.1 m)).sum
theorem allF_at {t : Tb} (o : TbOk t) {hs : List (Str × Nat)} {s : List Nat × Str} (v : VS t s.1 s.2) (h : s.1.sum ≠ total t) {pre r : List Str} {m : Str} (e : readyS t s.1 s.2 = pre ++ m :: r) {k : Nat} (hk : k < cnt t hs (afterC t s.1 m) (afterB t hs s.1 m)) :
    (allF t hs s)[ahead t hs s pre + k]? = ((allF t hs (afterC t s.1 m, afterB t hs s.1 m))[k]?).map (m :: ·) := by
  rw [allF_step o v h, e]
  have h1 := fm_get (fun m => (allF t hs (afterC t s.1 m, afterB t hs s.1 m)).map (m :: ·)) pre m r k (by simpa [allF_len] using hk)
  simp only [List.length_map, allF_len, List.getElem?_map] at h1
  exact h1
theorem ahead_snoc {t : Tb} {hs : List (Str × Nat)} {s : List Nat × Str} {pre : List Str} {m : Str} : ahead t hs s (pre ++ [m]) = ahead t hs s pre + cnt t hs (afterC t s.1 m) (afterB t hs s.1 m) := by
  simp [ahead]
theorem ahead_all {t : Tb} (o : TbOk t) {hs : List (Str × Nat)} {s : List Nat × Str} (v : VS t s.1 s.2) (h : s.1.sum ≠ total t) : ahead t hs s (readyS t s.1 s.2) = cnt t hs s.1 s.2 := by
  rw [← allF_len s, allF_step o v h, List.length_flatMap]
  simp [ahead, allF_len]
end LK
set_option Elab.async false
set_option linter.all false
set_option maxRecDepth 100000
set_option maxHeartbeats 400000
namespace LK
open PySem PySem.Spec PyProof.Rows L2 DL
/-! ### the orders that go on are good orders -/
theorem walk_allO {t : Tb} (o : TbOk t) {hs : List (Str × Nat)} : ∀ (n : Nat) (i : Nat) (cs : List Nat) (b : Str) (ns : List Str), ns ∈ allO t hs n cs b → ∃ s', walkO t hs i ns (cs, b) = .inl s' ∧ s'.1.sum = total t
  | 0, i, cs, b, ns, h => by
    have h : ns ∈ if cs.sum = total t then [[]] else ([] : List (List Str)) := h
    by_cases e : cs.sum = total t
    · rw [if_pos e] at h
      obtain rfl := List.mem_singleton.mp h
      exact ⟨_, rfl, e⟩
    · rw [if_neg e] at h; cases h
  | n + 1, i, cs, b, ns, h => by
    have h : ns ∈ if cs.sum = total t then [[]] else (readyS t cs b).flatMap fun m => (allO t hs n (afterC t cs m) (afterB t hs cs m)).map (m :: ·) := h
    by_cases e : cs.sum = total t
    · rw [if_pos e] at h
      obtain rfl := List.mem_singleton.mp h
      exact ⟨_, rfl, e⟩
    · rw [if_neg e] at h
      obtain ⟨m, hm, h⟩ := List.mem_flatMap.mp h
      obtain ⟨r, hr, rfl⟩ := List.mem_map.mp h
      obtain ⟨s', e1, e2⟩ := walk_allO o n (i + 1) _ _ r hr
      refine ⟨s', ?_, e2⟩
      show (if m ∈ readyS t cs b then walkO t hs (i + 1) r (afterC t cs m, afterB t hs cs m) else .inr i) = _
      rw [if_pos hm]; exact e1
theorem check_allF {t : Tb} (o : TbOk t) {hs : List (Str × Nat)} {ns : List Str} (h : ns ∈ allF t hs (st0 t)) : checkO t hs ns true = none := by
  obtain ⟨s', e1, e2⟩ := walk_allO o _ 0 _ _ ns h
  unfold checkO
  rw [show walkO t hs 0 ns (st0 t) = .inl s' from e1]
  simp [e2]
end LK
set_option Elab.async false
set_option linter.all false
set_option maxRecDepth 100000
set_option maxHeartbeats 400000
namespace LK
open PySem PySem.Spec PyProof.Rows L2 DL
/-! ### the number of an order -/
def numO (t : Tb) (hs : List (Str × Nat)) : List Str → List Nat × Str → Nat
  | [], _ => 0
  | m :: r, s => ahead t hs s ((readyS t s.1 s.2).takeWhile (fun x => !decide (x = m))) + numO t hs r (afterC t s.1 m, afterB t hs s.1 m)
theorem take_split {l : List Str} {m : Str} (h : m ∈ l) : ∃ r, l = l.takeWhile (fun x => !decide (x = m)) ++ m :: r := by
  induction l with
  | nil => cases h
  | cons a l ih =>
    by_cases e : a = m
    · subst e; exact ⟨l, by simp⟩
    · rcases List.mem_cons.mp h with h | h
      · exact absurd h.symm e
      · obtain ⟨r, hr⟩ := ih h
        refine ⟨r, ?_⟩
        rw [List.takeWhile_cons, if_pos (by simp [e]), List.cons_append]
        exact congrArg (a :: ·) hr
theorem numO_at {t : Tb} (o : TbOk t) {hs : List (Str × Nat)} : ∀ (ns : List Str) (s : List Nat × Str), VS t s.1 s.2 → ns ∈ allF t hs s → (allF t hs s)[numO t hs ns s]? = some ns
  | [], s, v, h => by
    by_cases e : s.1.sum = total t
    · rw [allF_whole e]; rfl
    · rw [allF_step o v e] at h
      obtain ⟨m, _, h⟩ := List.mem_flatMap.mp h
      obtain ⟨r, _, hr⟩ := List.mem_map.mp h
      cases hr
  | m :: r, s, v, h => by
    by_cases e : s.1.sum = total t
    · rw [allF_whole e] at h
      cases List.mem_singleton.mp h
    · have h0 := h
      rw [allF_step o v e] at h
      obtain ⟨m', hm, h⟩ := List.mem_flatMap.mp h
      obtain ⟨r', hr, e2⟩ := List.mem_map.mp h
      obtain ⟨e3, e4⟩ := List.cons.inj e2
      rw [e4, e3] at hr
      rw [e3] at hm
      have ih := numO_at o r _ (v.after o (hs := hs) hm).1 hr
      obtain ⟨q, hq⟩ := take_split hm
      have hlt := (List.getElem?_eq_some_iff.mp ih).1
      rw [allF_len] at hlt
      show (allF t hs s)[ahead t hs s _ + numO t hs r _]? = _
      rw [allF_at o v e hq hlt, ih]
      rfl
end LK
set_option Elab.async false
set_option linter.all false
set_option maxRecDepth 100000
set_option maxHeartbeats 1000000
namespace DL
open PySem PySem.Spec PyProof.Rows L2
section
variable {X : Cx} {W : WX} {e : Expr} {δ : DEnv} {I : Iv X.K} {pos : Pos} {κ : Ko X.K} {x' : Str} {n m : Int}
/-- x -= e, ints -/
theorem s_subP (i : Nat) (hd : δ[i]? = some (some (.int n))) (h : PV X I e δ (.int m)) (q : κ.nx (δ.set i (some (.int (n - m)))) I) {pos' : Pos} (hN : X.N.Nodup := by assumption) (hi : X.N[i]? = some x' := by rfl) (hx : Loc X.env.scope x' := by first | exact Or.inl rfl | exact Or.inr rfl)
    (hf : X.fn x' = true ∨ X.env.scope.names.lookup x' = some .local := by first | exact .inl rfl | exact .inr rfl) : S1 X W (.AugAssign (.Name x' pos') .Sub e pos) δ I κ := fun σ G H E hE s hI k => by
  obtain ⟨v, hv, rv⟩ := hE.2 i _ hd
  obtain rfl : v = .int n := rv
  exact PS.wp (ps_aug hN hi hx peC ip_sub hf) ⟨_, hv, h W (κ.r δ) (fun z J => z = .int m ∧ J = I) ⟨rfl, rfl⟩ σ G H _ hE s hI (k.kx hE) fun w d1 G1 H1 I1 s1 t1 h1 r1 ⟨ed, ei⟩ => by
    subst ed ei
    exact ⟨n, m, rfl, r1, k.nx _ _ G1 H1 _ s1 t1 h1 ((hE.mono s1).set (d := .int (n - m)) rfl) q⟩⟩
end
end DL
namespace LK
open PySem PySem.Spec PyProof.Rows L2 DL
/-! ### the order with a number -/
def sOAt {K : PySem.W.Frag} : Spec K := fun I ds P R => ∃ t l d, ∃ k : Int, ds = [cD K t, .int k, d] ∧ (d = .lst (l.map pairD) ∨ d = .tup (l.map pairD)) ∧ TbOk t ∧ Small t ∧ (∀ g ∈ l, g ∈ gapsT t) ∧ l.length ≤ 1000 ∧
  if 0 ≤ k ∧ k < (cnt t (holdsN t l) (st0 t).1 (st0 t).2 : Nat) then P (.tub (((allF t (holdsN t l) (st0 t)).getD k.toNat []).map D.str)) I else R (He.ga K "NoOrder") [("count", .int (cnt t (holdsN t l) (st0 t).1 (st0 t).2 : Nat))] I
section
variable {P : Program} {w : World} {K : PySem.W.Frag} {mg : Str → Option Value} {base : Heap}
end
end LK
set_option Elab.async false
set_option linter.all false
set_option maxRecDepth 100000
set_option maxHeartbeats 1000000
namespace LK
open PySem PySem.Spec PyProof.Rows L2 DL
/-! ### the number of an order -/
def sONum {K : PySem.W.Frag} : Spec K := fun I ds P R => ∃ t l d ns d1, ds = [cD K t, d1, d] ∧ (d1 = .lst (ns.map D.str) ∨ d1 = .tup (ns.map D.str)) ∧ (d = .lst (l.map pairD) ∨ d = .tup (l.map pairD)) ∧ TbOk t ∧ Small t ∧ (∀ g ∈ l, g ∈ gapsT t) ∧ l.length ≤ 1000 ∧ ns.length ≤ 1000 ∧
  match checkO t (holdsN t l) ns true with
  | none => P (.int (numO t (holdsN t l) ns (st0 t) : Nat)) I
  | some i => R (He.ga K "WrongOrder") [("index", .int i)] I
theorem tw_pre {pre r : List Str} {m : Str} (h : m ∉ pre) : (pre ++ m :: r).takeWhile (fun x => !decide (x = m)) = pre := by
  induction pre with
  | nil => simp
  | cons a pre ih =>
    have h1 : a ≠ m := fun e => h (by rw [e]; simp)
    rw [List.cons_append, List.takeWhile_cons, if_pos (by simp [h1]), ih (fun hm => h (by simp [hm]))]
/-- what is walked so far, of a good order -/
theorem check_step {t : Tb} {hs : List (Str × Nat)} {ns p r : List Str} {m : Str} {s : List Nat × Str} (h : checkO t hs ns true = none) (e : ns = p ++ m :: r) (hw : walkO t hs 0 p (st0 t) = .inl s) : m ∈ readyS t s.1 s.2 := by
  refine Classical.byContradiction fun hn => ?_
  unfold checkO at h
  rw [e, walk_app _ _ _ _ _ hw] at h
  have e3 : walkO t hs (0 + p.length) (m :: r) s = .inr (0 + p.length) := by
    show (if m ∈ readyS t s.1 s.2 then _ else _) = _
    rw [if_neg hn]
  rw [e3] at h
  cases h
section
variable {P : Program} {w : World} {K : PySem.W.Frag} {mg : Str → Option Value} {base : Heap}
theorem ok_onum (E : Env P w K mg base) (fd : FuncData) (F : FunD K "order_number" "order_number" (defArgs f_order_number) (defBody f_order_number) (defScope f_order_number) [] [("holds", V.ref (kwdAt ("order_number", none) "holds" K))] (He.ga K "order_number") fd) : FnOk P w K mg base (L2.CX P w) 25 (He.ga K "order_number") fd ["cast", "order", "holds"] (spD K sONum) := by
  refine fn_d F sc_f_order_number (fun I ds P R h => by obtain ⟨t, l, d, ns, d1, rfl, _⟩ := h; rfl) fun cdv A outer s H EE hr tk po I ds Q R h => ?_
  obtain ⟨t, l, d, ns, d1, rfl, hd1, hd, o, sm, hl, hz, hns, q⟩ := h
  have nd := sc_f_order_number.nd
  have hu := hr.units
  have hr1 : Room 1 _ := hr.mono (by decide)
  have hr2 : Room 2 _ := hr.mono (by decide)
  have hr3 : Room 3 _ := hr.mono (by decide)
  have hr4 : Room 4 _ := hr.mono (by decide)
  have hr5 : Room 5 _ := hr.mono (by decide)
  have hr6 : Room 6 _ := hr.mono (by decide)
  have hr24 : Room 24 _ := hr
  have hm6 := o.m
  have hk := holdsN_ok o l
  refine s_cons (s_setP (d := .tup ((holdsN t l).map pairD)) 3 (pv_def (D_holds_of E) hr4 (va_cons (pv_v (d := cD K t) 0) (va_cons (pv_v (d := d) 2) va_nil)) fun P pp => ⟨t, l, d, rfl, hd, o, hl, hz, pp⟩) ?_)
  generalize holdsN t l = hs at q hk ⊢
  refine s_cons (s_set 4 (ev_def tk (D_checked E) hr6 (ea_cons ((pv_v (d := cD K t) 0).ev (ea_cons ((pv_v (d := d1) 1).ev (ea_cons ((pv_v (d := .tup (hs.map pairD)) 3).ev (ea_cons (pv_bl.ev (ea_nil ⟨t, hs, ns, d1, true, rfl, hd1, o, hk, hns, ?_⟩)))))))))))
  cases hck : checkO t hs ns true with
  | some i =>
    rw [hck] at q
    exact q
  | none =>
  rw [hck] at q
  refine s_cons (s_set 5 (ev_course E tk hr4 (pv_v (d := cD K t) 0) (pv_v (d := .tup (hs.map pairD)) 3) fun x dx mq => ?_))
  refine SX.eq (show _ = (Rc.r I (.r (iIns K x (cO K) dx (coF K t hs mq)) .here)).fill (iDic K mq []) from rfl) ?_
  refine sx_memo _ ?_
  refine SX.eq (show _ = (Rc.r I .here).fill (iCM P w K x dx mq t hs []) from rfl) ?_
  refine s_cons (s_asgP (pv_start E hr1 icm_coi (pv_v 5) o.n (by omega)) (bind_tup (ws := [6, 7]) (bs_cons (bind_name 6) (bs_cons (bind_name 7) bs_nil))) ?_)
  refine s_cons (s_setP 8 pv_int ?_)
  refine s_cons (s_forT (xs := ns) (g := D.str) po (vi_tup (pv_v (d := .tup (ns.map D.str)) 4)) (fun p δ' I' => ∃ (cs : List Nat) (n : Str) (kds : List (NestedKey × D)) (k : Nat) (o9 o10 o11 : Option D), MemoOk t hs kds ∧ VS t cs n ∧ walkO t hs 0 p (st0 t) = .inl (cs, n) ∧ (∀ r, ns = p ++ r → k + numO t hs r (cs, n) = numO t hs ns (st0 t)) ∧ I' = (Rc.r I .here).fill (iCM P w K x dx mq t hs kds) ∧
    δ' = [some (cD K t), some d1, some d, some (.tup (hs.map pairD)), some (.tup (ns.map D.str)), some (.adr x), some (csD cs), some (.str n), some (.int k), o9, o10, o11]) ⟨(st0 t).1, (st0 t).2, [], 0, none, none, none, .nil, VS.start t, rfl, fun r e => by rw [show r = ns from e.symm]; simp, rfl, rfl⟩ ?_ ?_)
  · rintro p m r δ' I' e ⟨cs, n, kds, k, o9, o10, o11, mo, v, hw, hnum, rfl, rfl⟩
    have hm := check_step hck e hw
    have hm : m ∈ readyS t cs n := hm
    refine ⟨_, [9], bind_name 9, ?_⟩
    refine s_cons (s_joint (fun δ2 I2 => ∃ (kds' : List (NestedKey × D)) (o10 o11 : Option D), MemoOk t hs kds' ∧ I2 = (Rc.r I .here).fill (iCM P w K x dx mq t hs kds') ∧
      δ2 = [some (cD K t), some d1, some d, some (.tup (hs.map pairD)), some (.tup (ns.map D.str)), some (.adr x), some (csD cs), some (.str n), some (.int (k + ahead t hs (cs, n) ((readyS t cs n).takeWhile (fun x => !decide (x = m))) : Nat)), some (.str m), o10, o11]) (s_forT (xs := readyS t cs n) (g := D.str) po (vi_lst (pv_ready E hr5 icm_coi (pv_v 5) (pv_v (d := csD cs) 6) (pv_v 7) o v.len)) (fun pre δ2 I2 => ∃ (kds' : List (NestedKey × D)) (o10 o11 : Option D), MemoOk t hs kds' ∧ m ∉ pre ∧ I2 = (Rc.r I .here).fill (iCM P w K x dx mq t hs kds') ∧
      δ2 = [some (cD K t), some d1, some d, some (.tup (hs.map pairD)), some (.tup (ns.map D.str)), some (.adr x), some (csD cs), some (.str n), some (.int (k + ahead t hs (cs, n) pre : Nat)), some (.str m), o10, o11]) ⟨kds, o10, o11, mo, (fun h => nomatch h), rfl, by simp [ahead]⟩ ?_ ?_) ?_)
    · rintro pre y r2 δ2 I2 e2 ⟨kds', o10, o11, mo', hmp, rfl, rfl⟩
      have hy : y ∈ readyS t cs n := by rw [e2]; simp
      obtain ⟨v2, s2⟩ := v.after o (hs := hs) hy
      refine ⟨_, [10], bind_name 10, ?_⟩
      refine s_cons (s_ifP (pt_eq hu (pv_v 10) (pv_v 9) trivial) (fun h => ?_) fun h => s_nil ?_)
      · have h : y = m := of_decide_eq_true h
        subst h
        refine s_one (s_break ⟨kds', some (.str y), o11, mo', rfl, ?_⟩)
        rw [e2, tw_pre hmp]; rfl
      · have h : y ≠ m := of_decide_eq_false h
        refine s_cons (s_setP (d := .tup [csD (afterC t cs y), .str (afterB t hs cs y)]) 11 (pv_after E hr1 icm_coi (pv_v 5) (pv_v (d := csD cs) 6) (pv_v 10) o v.len (ready_nm hy) hk) ?_)
        refine s_one (s_augE 8 rfl (ev_count E tk hr24 (pv_v 5) (pv_ix ix_tup (pv_w (d := .tup [csD (afterC t cs y), .str (afterB t hs cs y)]) 11 rfl) pv_int (p2_ixT rfl)) (pv_ix ix_tup (pv_w (d := .tup [csD (afterC t cs y), .str (afterB t hs cs y)]) 11 rfl) pv_int (p2_ixT rfl)) o sm hk mo' v2 fun kds2 m2 => ⟨_, rfl, ?_⟩))
        refine ⟨kds2, some (.str y), some (.tup [csD (afterC t cs y), .str (afterB t hs cs y)]), m2, ?_, rfl, ?_⟩
        · intro hm2
          rcases List.mem_append.mp hm2 with h2 | h2
          · exact hmp h2
          · exact h (List.mem_singleton.mp h2).symm
        · rw [ahead_snoc, ← Nat.add_assoc]
          rfl
    · rintro δ2 I2 ⟨kds', o10, o11, mo', hmp, rfl, rfl⟩
      exact absurd hm hmp
    · rintro δ2 I2 ⟨kds', o10, o11, mo', rfl, rfl⟩
      obtain ⟨v2, s2⟩ := v.after o (hs := hs) hm
      refine s_one (s_asgP (pv_after E hr1 icm_coi (pv_v 5) (pv_v (d := csD cs) 6) (pv_v 9) o v.len (ready_nm hm) hk) (bind_tup (ws := [6, 7]) (bs_cons (bind_name 6) (bs_cons (bind_name 7) bs_nil))) ⟨afterC t cs m, afterB t hs cs m, kds', _, _, _, _, mo', v2, ?_, fun r' e' => ?_, rfl, rfl⟩)
      · rw [walk_app _ _ _ _ _ hw]
        show (if m ∈ readyS t cs n then _ else _) = _
        rw [if_pos hm]; rfl
      · rw [← hnum (m :: r') (by rw [e', List.append_assoc]; rfl)]
        show _ = k + (ahead t hs (cs, n) _ + numO t hs r' _)
        rw [Nat.add_assoc]
  · rintro δ' I' ⟨cs, n, kds, k, o9, o10, o11, mo, v, hw, hnum, rfl, rfl⟩
    have := hnum [] (by simp)
    rw [← this] at q
    exact SX.drop (s_one (s_retP (pv_v 8) q))
theorem D_onum (E : Env P w K mg base) : DefK P w K mg base "order_number" 25 ["cast", "order", "holds"] 2 ["holds"] [] sONum := mkK_f_order_number E fun fd F => ok_onum E fd F
end
end LK
set_option Elab.async false
set_option linter.all false
set_option maxRecDepth 100000
set_option maxHeartbeats 1000000
namespace LK
open PySem PySem.Spec PyProof.Rows L2 DL
theorem gaps_len {t : Tb} (o : TbOk t) : (gapsT t).length ≤ 48 := by
  have := sum_flat gapsR_len o (p := t) (r := []) (by simp)
  exact this
section
variable {P : Program} {w : World} {K : PySem.W.Frag} {mg : Str → Option Value} {base : Heap}
theorem D_broken (E : Env P w K mg base) : Def P w K mg base "broken_gaps" 7 ["cast", "order"] [] sBroken := mk_f_broken_gaps E fun fd F => by
  refine fn_d F sc_f_broken_gaps (fun I ds P R h => by obtain ⟨t, ns, d, rfl, _⟩ := h; rfl) fun cdv A outer s H EE hr tk po I ds Q R h => ?_
  obtain ⟨t, ns, d, rfl, hd, o, hw, hz, q⟩ := h
  have nd := sc_f_broken_gaps.nd
  have hu := hr.units
  have hr3 : Room 3 _ := hr.mono (by decide)
  have hr6 : Room 6 _ := hr
  refine s_cons (s_setP (d := .tup (ns.map D.str)) 2 (pv_def (D_checked E) hr6 (va_cons (pv_v (d := cD K t) 0) (va_cons (pv_v (d := d) 1) (va_cons (pv_tup va_nil) (va_cons pv_bl va_nil)))) fun P pp => ⟨t, [], ns, d, true, rfl, hd, o, (fun q hq => nomatch hq), hz, by rw [check_whole o hw]; exact pp⟩) ?_)
  refine s_cons (s_set 3 (ev_lstM' va_nil (by decide) fun f => ?_))
  have hgl := gaps_len o
  refine s_cons (s_forE po (ei_lst (ev_freezeL (ev_gaps E tk hr3 (pv_v (d := cD K t) 0) o fun a => ⟨a, _, _, rfl, rfl, _, .inl rfl, Str × Nat, gapsT t, pairD, fun p δ' I' => I' = I.and (iLst K f ((p.filter (brk ns)).map pairD)) ∧ ∃ o4 o5 o6 o7 o8, δ' = [some (cD K t), some d, some (.tup (ns.map D.str)), some (.adr f), o4, o5, o6, o7, o8], rfl, ⟨rfl, none, none, none, none, none, rfl⟩, ?_, ?_⟩))))
  · rintro p q0 r δ' I' e ⟨rfl, o4, o5, o6, o7, o8, rfl⟩
    have hq : q0 ∈ gapsT t := by rw [e]; simp
    obtain ⟨x, hx, e1, e2, _⟩ := gap_in hq
    have hpl : (posOf ns q0.1).length = x.2.length := by rw [pos_len, e1]; exact hw.cnt x hx
    have hb : ((p ++ [q0]).filter (brk ns)).map pairD = (p.filter (brk ns)).map pairD ++ if brk ns q0 = true then [pairD q0] else [] := by
      rw [List.filter_append, List.map_append, List.filter_cons]
      split <;> rfl
    refine ⟨_, [4, 5], bind_tup (bs_cons (bind_name 4) (bs_cons (bind_name 5) bs_nil)), ?_⟩
    refine s_cons (s_setLc 6 [("place", 7), ("other", 8)] (lcT (xs := ns.zipIdx) (g := fun p => .tup [.int p.2, .str p.1]) (fun p => .int p.2) (fun p => decide (p.1 = q0.1)) [("place", 7), ("other", 8)] (fun p => [some (cD K t), some d, some (.tup (ns.map D.str)), some (.adr f), some (.str q0.1), some (.int q0.2), o6, some (.int p.2), some (.str p.1)]) (by rw [← enumD_map]; exact vi_enumT E.b_enumerate (pv_v (d := .tup (ns.map D.str)) 2)) (by rw [List.length_zipIdx]; omega) (fun p s H C cl fp => bind_tup (bs_cons (bind_name 7) (bs_cons (bind_name 8) bs_nil))) (fun p hp J s H C cl fp => pt_eq hu (pv_w 8 rfl) (pv_w 4 rfl) trivial) (fun p hp ht J s H C cl fp => pv_v 7) ?_))
    have epos : D.lst ((ns.zipIdx.filter fun p : Str × Nat => decide (p.1 = q0.1)).map fun p : Str × Nat => D.int p.2) = .lst ((posOf ns q0.1).map fun n : Nat => D.int n) := by
      unfold posOf
      rw [List.map_map]; rfl
    rw [epos]
    have g1 : (posOf ns q0.1)[q0.2 + 1]? = some ((posOf ns q0.1).getD (q0.2 + 1) 0) := by rw [List.getD_eq_getElem?_getD, List.getElem?_eq_getElem (by omega)]; rfl
    have g0 : (posOf ns q0.1)[q0.2]? = some ((posOf ns q0.1).getD q0.2 0) := by rw [List.getD_eq_getElem?_getD, List.getElem?_eq_getElem (by omega)]; rfl
    refine s_one (s_ifP (PVT.is (c := brk ns q0) (DL.pt_cmp op_gt (pv_ix ix_list (pv_w 6 rfl) (pv_op op_add (pv_v 5) pv_int p2_add) (p2_ixL (atI_m g1))) (pv_op op_add (pv_ix ix_list (pv_w 6 rfl) (pv_v 5) (p2_ixL (atI_m g0))) pv_int p2_add) p2_gt) ?_) (fun hn => ?_) fun hn => s_nil ?_)
    · unfold brk
      refine decide_eq_decide.mpr ?_
      omega
    · rw [if_pos hn] at hb
      refine s_one (s_append (.r I .here) (pv_v 3) rfl ((pv_tup (va_cons (pv_v 4) (va_cons (pv_v 5) va_nil))).ev ⟨rfl, ?_, ?_⟩))
      · rw [List.length_map]
        have h1 := List.length_filter_le (brk ns) p
        have h2 : p.length ≤ (gapsT t).length := by rw [e, List.length_append]; omega
        omega
      · refine ⟨?_, _, _, _, _, _, rfl⟩
        rw [hb]; rfl
    · rw [if_neg (by rw [hn]; exact Bool.false_ne_true), List.append_nil] at hb
      exact ⟨by rw [hb], _, _, _, _, _, rfl⟩
  · rintro δ' I' ⟨rfl, o4, o5, o6, o7, o8, rfl⟩
    exact s_one (s_ret (ev_tupleM I E.b_tuple (pv_v 3) rfl q))
end
end LK
set_option Elab.async false
set_option linter.all false
set_option maxRecDepth 100000
set_option maxHeartbeats 400000
namespace LK
open PySem PySem.Spec PyProof.Rows L2 DL
/-! ### beginnings told by their names -/
theorem gapsR_nd (p : Str × List Wr) : (gapsR p).Nodup := by
  unfold gapsR
  have h : ((List.range (p.2.length - 1)).filter fun k => !decide (kAt p.2 k = "ask")).Nodup := List.nodup_range.sublist List.filter_sublist
  rw [List.Nodup, List.pairwise_map]
  exact h.imp fun hne e => hne (Prod.mk.inj e).2
theorem gapsT_nd {t : Tb} (o : TbOk t) : (gapsT t).Nodup := by
  have nd := o.nd
  clear o
  unfold gapsT
  rw [List.Nodup, List.pairwise_flatMap]
  refine ⟨fun p _ => gapsR_nd p, ?_⟩
  rw [List.Nodup, List.pairwise_map] at nd
  exact nd.imp fun hne q1 h1 q2 h2 e => hne (by rw [← gapsR_fst h1, ← gapsR_fst h2, e])
theorem filter_sub {α : Type} [DecidableEq α] : ∀ {l g : List α}, l.Sublist g → g.Nodup → g.filter (fun x => decide (x ∈ l)) = l
  | _, _, .slnil, _ => rfl
  | l, _, .cons a h, nd => by
    have nd := List.nodup_cons.mp nd
    have ih := filter_sub h nd.2
    rw [List.filter_cons, if_neg (by simpa using fun hm => nd.1 (h.subset hm))]
    exact ih
  | _, _, @List.Sublist.cons_cons _ l g a h, nd => by
    have nd := List.nodup_cons.mp nd
    have ih := filter_sub h nd.2
    rw [List.filter_cons, if_pos (by simp)]
    refine congrArg (a :: ·) ?_
    rw [← ih]
    refine List.filter_congr fun x hx => ?_
    have hne : x ≠ a := fun e => nd.1 (e ▸ hx)
    rw [ih]
    simp [hne]
theorem holdsN_sub {t : Tb} (o : TbOk t) {l : List (Str × Nat)} (h : l.Sublist (gapsT t)) : holdsN t l = l := Eq.trans (List.filter_congr fun x _ => decide_eq_decide.mpr Iff.rfl) (filter_sub h (gapsT_nd o))
theorem holdsN_dup {t : Tb} (l : List (Str × Nat)) : holdsN t (l ++ l) = holdsN t l := by
  unfold holdsN
  refine List.filter_congr fun x _ => ?_
  simp
/-- the bound work behind a beginning -/
def bndO (hs : List (Str × Nat)) (ns : List Str) : Str := match ns.getLast? with
  | none => ""
  | some m => if (m, ns.count m - 1) ∈ hs then m else ""
theorem snoc_ind {α : Type} {Q : List α → Prop} (h0 : Q []) (h1 : ∀ l a, Q l → Q (l ++ [a])) (l : List α) : Q l := by
  have h : ∀ r : List α, Q r.reverse := fun r => by
    induction r with
    | nil => exact h0
    | cons a r ih => rw [List.reverse_cons]; exact h1 _ _ ih
  have := h l.reverse
  rwa [List.reverse_reverse] at this
theorem after_cnt {t : Tb} (o : TbOk t) {p : List Str} {m : Str} (hm : m ∈ nmT t) : afterC t ((nmT t).map p.count) m = (nmT t).map (p ++ [m]).count := by
  rw [after_map o hm]
  refine List.map_congr_left fun x _ => ?_
  rw [List.count_append, List.count_cons, List.count_nil]
  by_cases hxm : x = m
  · subst hxm; simp
  · rw [if_neg hxm, if_neg (by simpa using fun h => hxm h.symm)]
theorem stO_fst {t : Tb} (o : TbOk t) {hs : List (Str × Nat)} (ns : List Str) : (∀ n ∈ ns, n ∈ nmT t) → (stO t hs ns).1 = (nmT t).map ns.count := by
  refine snoc_ind (Q := fun ns => (∀ n ∈ ns, n ∈ nmT t) → (stO t hs ns).1 = (nmT t).map ns.count) (fun _ => congrArg Prod.fst (st0_map t)) (fun p m ih h => ?_) ns
  rw [stO_snoc, ih fun n hn => h n (by simp [hn])]
  exact after_cnt o (h m (by simp))
theorem stO_cnt {t : Tb} (o : TbOk t) {hs : List (Str × Nat)} {ns : List Str} (h : ∀ n ∈ ns, n ∈ nmT t) : stO t hs ns = ((nmT t).map ns.count, bndO hs ns) := by
  refine Prod.ext (stO_fst o ns h) ?_
  rcases List.eq_nil_or_concat ns with e | ⟨p, m, e⟩
  · subst e; rfl
  · rw [List.concat_eq_append] at e
    subst e
    have hm : m ∈ nmT t := h m (by simp)
    have e1 := stO_fst o (hs := hs) p fun n hn => h n (by simp [hn])
    rw [stO_snoc, e1]
    show afterB t hs _ m = _
    unfold afterB bndO
    rw [List.getLast?_concat]
    have hi := List.idxOf_lt_length_of_mem hm
    rw [cAt_map t p.count (by rw [List.getElem?_eq_getElem hi, List.getElem_idxOf])]
    have e3 : (p ++ [m]).count m - 1 = p.count m := by rw [List.count_append, List.count_cons_self, List.count_nil]; omega
    show _ = if (m, (p ++ [m]).count m - 1) ∈ hs then m else ""
    rw [e3]
theorem zipIdx_filter (f : Str → Bool) : ∀ (l : List Str) (k : Nat), (((l.zipIdx k).filter fun p => f p.1).map (·.1)) = l.filter f
  | [], _ => rfl
  | a :: l, k => by
    rw [List.zipIdx_cons, List.filter_cons, List.filter_cons]
    split
    · rw [List.map_cons, zipIdx_filter f l]
    · exact zipIdx_filter f l _
/-- which names come next, by the names so far -/
def nextO (t : Tb) (hs : List (Str × Nat)) (ns : List Str) (m : Str) : Bool := decide (ns.count m < ((rowOf t m).getD []).length) && (decide (bndO hs ns = "") || decide (bndO hs ns = m))
theorem ready_cnt {t : Tb} (o : TbOk t) {hs : List (Str × Nat)} {ns : List Str} (h : ∀ n ∈ ns, n ∈ nmT t) : readyS t (stO t hs ns).1 (stO t hs ns).2 = (nmT t).filter (nextO t hs ns) := by
  rw [stO_cnt o h]
  unfold readyS
  have e1 : ((nmT t).zipIdx.filter fun p => decide (cAt ((nmT t).map ns.count) p.2 < ((rowOf t p.1).getD []).length)) = (nmT t).zipIdx.filter fun p => decide (ns.count p.1 < ((rowOf t p.1).getD []).length) := by
    refine List.filter_congr fun p hp => ?_
    obtain ⟨n, i⟩ := p
    have hg := mem_zipIdx hp
    show decide (cAt _ i < _) = _
    rw [cAt_map t ns.count hg]
  show (((((nmT t).zipIdx.filter fun p => decide (cAt ((nmT t).map ns.count) p.2 < ((rowOf t p.1).getD []).length)).map (·.1)).filter fun n => decide (bndO hs ns = "") || decide (bndO hs ns = n)) = _)
  rw [e1, zipIdx_filter (fun m => decide (ns.count m < ((rowOf t m).getD []).length)), List.filter_filter]
  refine List.filter_congr fun m _ => ?_
  unfold nextO
  rw [Bool.and_comm]
theorem prefO_nm {t : Tb} (o : TbOk t) {hs : List (Str × Nat)} : ∀ (k : Nat) (ns : List Str), ns ∈ prefO t hs k → ∀ n ∈ ns, n ∈ nmT t
  | 0, ns, h => by
    have e : ns = [] := by simpa [prefO] using h
    subst e
    intro n hn; cases hn
  | k + 1, ns, h => by
    obtain ⟨p, hp, hn⟩ := List.mem_flatMap.mp h
    obtain ⟨m, hm, rfl⟩ := List.mem_map.mp hn
    intro n hn
    rcases List.mem_append.mp hn with h1 | h1
    · exact prefO_nm o k p hp n h1
    · rw [List.mem_singleton.mp h1]; exact ready_nm hm
theorem len_flat_le {α β : Type} (f : α → List β) (n : Nat) : ∀ l : List α, (∀ a ∈ l, (f a).length ≤ n) → (l.flatMap f).length ≤ l.length * n
  | [], _ => by simp
  | a :: l, h => by
    rw [List.flatMap_cons, List.length_append, List.length_cons, Nat.add_mul, Nat.one_mul]
    have h1 := h a (by simp)
    have h2 := len_flat_le f n l fun b hb => h b (by simp [hb])
    omega
theorem ready_len {t : Tb} {cs : List Nat} {b : Str} : (readyS t cs b).length ≤ t.length := by
  unfold readyS
  refine Nat.le_trans (List.length_filter_le _ _) ?_
  rw [List.length_map]
  refine Nat.le_trans (List.length_filter_le _ _) ?_
  rw [List.length_zipIdx, List.length_map]
  exact Nat.le_refl _
theorem pref_len {t : Tb} {hs : List (Str × Nat)} : ∀ k : Nat, (prefO t hs k).length ≤ t.length ^ k
  | 0 => Nat.le_refl _
  | k + 1 => by
    show ((prefO t hs k).flatMap _).length ≤ _
    refine Nat.le_trans (len_flat_le _ t.length _ fun ns _ => ?_) ?_
    · rw [List.length_map]; exact ready_len
    · rw [Nat.pow_succ]
      exact Nat.mul_le_mul_right _ (pref_len k)
/-! ### there is always an order; none comes twice -/
theorem readyS_nd {t : Tb} (o : TbOk t) {cs : List Nat} {b : Str} : (readyS t cs b).Nodup := by
  unfold readyS
  refine List.Nodup.sublist List.filter_sublist ?_
  have h : (((nmT t).zipIdx.filter fun p => decide (cAt cs p.2 < ((rowOf t p.1).getD []).length)).map (·.1)).Sublist (nmT t) := by
    have h1 := (List.filter_sublist (p := fun p : Str × Nat => decide (cAt cs p.2 < ((rowOf t p.1).getD []).length)) (l := (nmT t).zipIdx)).map (·.1)
    rwa [List.zipIdx_map_fst] at h1
  exact h.nodup o.nd
theorem allO_nd {t : Tb} (o : TbOk t) {hs : List (Str × Nat)} : ∀ (n : Nat) (cs : List Nat) (b : Str), (allO t hs n cs b).Nodup
  | 0, cs, b => by
    show (if cs.sum = total t then [[]] else ([] : List (List Str))).Nodup
    split <;> simp
  | n + 1, cs, b => by
    show (if cs.sum = total t then [[]] else (readyS t cs b).flatMap fun m => (allO t hs n (afterC t cs m) (afterB t hs cs m)).map (m :: ·)).Nodup
    split
    · simp
    · rw [List.Nodup, List.pairwise_flatMap]
      refine ⟨fun m _ => ?_, ?_⟩
      · rw [List.pairwise_map]
        exact (allO_nd o n _ _).imp fun h e => h (List.cons.inj e).2
      · refine (readyS_nd o (cs := cs) (b := b)).imp fun h x hx y hy e => ?_
        obtain ⟨x', _, rfl⟩ := List.mem_map.mp hx
        obtain ⟨y', _, rfl⟩ := List.mem_map.mp hy
        exact h (List.cons.inj e).1
theorem numO_of {t : Tb} (o : TbOk t) {hs : List (Str × Nat)} {s : List Nat × Str} (v : VS t s.1 s.2) {k : Nat} {ns : List Str} (h : (allF t hs s)[k]? = some ns) : numO t hs ns s = k := by
  have h1 := numO_at o ns s v (List.mem_of_getElem? h)
  obtain ⟨l1, e1⟩ := List.getElem?_eq_some_iff.mp h1
  obtain ⟨l2, e2⟩ := List.getElem?_eq_some_iff.mp h
  exact (List.getElem_inj (allO_nd o (hs := hs) (total t - s.1.sum) s.1 s.2)).mp (e1.trans e2.symm)
/-- a bound work may still write -/
def BdOk (t : Tb) (cs : List Nat) (b : Str) : Prop := b = "" ∨ ∃ i p, t[i]? = some p ∧ p.1 = b ∧ cAt cs i < p.2.length
theorem mem_ready {t : Tb} (o : TbOk t) {cs : List Nat} {b : Str} {i : Nat} {p : Str × List Wr} (hp : t[i]? = some p) (hc : cAt cs i < p.2.length) (hb : b = "" ∨ b = p.1) : p.1 ∈ readyS t cs b := by
  unfold readyS
  refine List.mem_filter.mpr ⟨List.mem_map.mpr ⟨(p.1, i), List.mem_filter.mpr ⟨List.mem_zipIdx_iff_getElem?.mpr ?_, ?_⟩, rfl⟩, ?_⟩
  · rw [List.getElem?_map, hp]; rfl
  · show decide (cAt cs i < ((rowOf t p.1).getD []).length) = true
    rw [rowOf_some o.nd (List.mem_of_getElem? hp)]
    exact decide_eq_true hc
  · rcases hb with h | h <;> simp [h]
theorem bd_after {t : Tb} (o : TbOk t) {hs : List (Str × Nat)} (hg : ∀ g ∈ hs, g ∈ gapsT t) {cs : List Nat} {b m : Str} (v : VS t cs b) (hm : m ∈ readyS t cs b) : BdOk t (afterC t cs m) (afterB t hs cs m) := by
  obtain ⟨i, p, hp, hpm, hi, hc⟩ := ready_at o hm
  unfold afterB
  rw [hi]
  by_cases h : (m, cAt cs i) ∈ hs
  · rw [if_pos h]
    obtain ⟨q, hq, e1, e2, _⟩ := gap_in (hg _ h)
    have e1 : m = q.1 := e1
    have e2 : cAt cs i + 1 < q.2.length := e2
    have eq : q = p := nd_inj o.nd hq (List.mem_of_getElem? hp) (by rw [← e1, hpm])
    refine .inr ⟨i, p, hp, hpm, ?_⟩
    unfold afterC
    rw [hi]
    have hl : i < cs.length := by rw [v.len]; exact (List.getElem?_eq_some_iff.mp hp).1
    have e3 : cAt (cs.set i (cAt cs i + 1)) i = cAt cs i + 1 := by
      unfold cAt
      rw [List.getElem?_set, if_pos rfl, if_pos hl]; rfl
    rw [e3, ← eq]
    exact e2
  · rw [if_neg h]; exact .inl rfl
theorem sum_lt_rows : ∀ (cs rs : List Nat), cs.length = rs.length → cs.sum < rs.sum → ∃ (i : Nat) (c r : Nat), cs[i]? = some c ∧ rs[i]? = some r ∧ c < r
  | [], [], _, h => absurd h (Nat.lt_irrefl _)
  | c :: cs, r :: rs, hl, h => by
    by_cases hcr : c < r
    · exact ⟨0, c, r, rfl, rfl, hcr⟩
    · rw [List.sum_cons, List.sum_cons] at h
      obtain ⟨i, c', r', h1, h2, h3⟩ := sum_lt_rows cs rs (by simpa using hl) (by omega)
      exact ⟨i + 1, c', r', by simpa using h1, by simpa using h2, h3⟩
  | [], _ :: _, hl, _ => by simp at hl
  | _ :: _, [], hl, _ => by simp at hl
theorem ready_ex {t : Tb} (o : TbOk t) {cs : List Nat} {b : Str} (v : VS t cs b) (hb : BdOk t cs b) (h : cs.sum ≠ total t) : ∃ m, m ∈ readyS t cs b := by
  rcases hb with e | ⟨i, p, hp, e, hc⟩
  · have hs := v.sum
    unfold total at hs h
    obtain ⟨i, c, r, h1, h2, h3⟩ := sum_lt_rows cs (t.map fun p => p.2.length) (by rw [List.length_map]; exact v.len) (by omega)
    rw [List.getElem?_map] at h2
    cases ht : t[i]? with
    | none => rw [ht] at h2; cases h2
    | some p =>
      rw [ht] at h2
      have h2 : p.2.length = r := Option.some.inj h2
      exact ⟨p.1, mem_ready o ht (by unfold cAt; rw [h1, h2]; exact h3) (.inl e)⟩
  · exact ⟨p.1, mem_ready o hp hc (.inr e.symm)⟩
theorem cnt_pos {t : Tb} (o : TbOk t) {hs : List (Str × Nat)} (hg : ∀ g ∈ hs, g ∈ gapsT t) : ∀ (n : Nat) (cs : List Nat) (b : Str), total t - cs.sum ≤ n → VS t cs b → BdOk t cs b → 0 < (allF t hs (cs, b)).length
  | n, cs, b, hn, v, hb => by
    by_cases h : cs.sum = total t
    · rw [allF_whole (s := (cs, b)) h]; decide
    · obtain ⟨m, hm⟩ := ready_ex o v hb h
      obtain ⟨v2, s2⟩ := v.after o (hs := hs) hm
      have hs' := v.sum
      cases n with
      | zero => omega
      | succ n =>
        have ih := cnt_pos o hg n (afterC t cs m) (afterB t hs cs m) (by omega) v2 (bd_after o hg v hm)
        obtain ⟨r, hr⟩ := List.exists_mem_of_length_pos ih
        rw [allF_step o (s := (cs, b)) v h]
        exact List.length_pos_of_mem (List.mem_flatMap.mpr ⟨m, hm, List.mem_map.mpr ⟨r, hr, rfl⟩⟩)
theorem all_pos {t : Tb} (o : TbOk t) {hs : List (Str × Nat)} (hg : ∀ g ∈ hs, g ∈ gapsT t) : 0 < (allF t hs (st0 t)).length := cnt_pos o hg _ (st0 t).1 (st0 t).2 (Nat.le_refl _) (VS.start t) (.inl rfl)
end LK
set_option Elab.async false
set_option linter.all false
set_option maxRecDepth 100000
set_option maxHeartbeats 1000000
namespace LK
open PySem PySem.Spec PyProof.Rows L2 DL
/-! ### beginnings, by their last name -/
abbrev ordD (ns : List Str) : D := .tub (ns.map D.str)
theorem atI_last {α : Type} {xs : List α} {x : α} (h : xs.getLast? = some x) : atI xs (-1) = some x := by
  have hne : xs ≠ [] := fun e => by rw [e] at h; cases h
  have hl := List.length_pos_iff.mpr hne
  unfold atI ixN
  rw [if_neg (by omega), if_pos (by omega)]
  show xs[(-1 + (xs.length : Int)).toNat]? = some x
  rw [show (-1 + (xs.length : Int)).toNat = xs.length - 1 by omega, ← List.getLast?_eq_getElem?]
  exact h
theorem total_sort {t : Tb} : total (sortW t) = total t := ((sortW_perm t).map _).sum_nat
theorem allStr1 {ns : List Str} : okPys (ns.map D.str) = true := by
  induction ns with
  | nil => rfl
  | cons n ns ih => show (okPy (.str n) && okPys _) = true; rw [ih]; rfl
theorem TbOk.nm_ok {t : Tb} (o : TbOk t) {n : Str} (h : n ∈ nmT t) : isNameS n = true := by
  obtain ⟨p, hp, rfl⟩ := List.mem_map.mp h
  exact o.nm p hp
def lastO (ns : List Str) : Str := (ns.getLast?).getD ""
def bndB (l : List (Str × Nat)) (ns : List Str) : Bool := !decide (lastO ns = "") && decide ((lastO ns, ns.count (lastO ns) - 1) ∈ l)
theorem next_eq {t : Tb} {l : List (Str × Nat)} {ns : List Str} {m : Str} : nextO t l ns m = (decide (ns.count m < ((rowOf t m).getD []).length) && (!bndB l ns || decide (m = lastO ns))) := by
  unfold nextO
  refine congrArg (_ && ·) ?_
  unfold bndB bndO lastO
  cases h : ns.getLast? with
  | none => simp
  | some x =>
    show (decide ((if (x, ns.count x - 1) ∈ l then x else ("" : Str)) = "") || decide ((if (x, ns.count x - 1) ∈ l then x else ("" : Str)) = m)) = (!(!decide (x = "") && decide ((x, ns.count x - 1) ∈ l)) || decide (m = x))
    by_cases h1 : (x, ns.count x - 1) ∈ l
    · rw [if_pos h1]
      by_cases h2 : x = ""
      · simp [h2]
      · by_cases h3 : x = m
        · simp [h1, h2, h3]
        · have h4 : ¬ m = x := fun e => h3 e.symm
          simp [h1, h2, h3, h4]
    · rw [if_neg h1]
      simp [h1]
theorem tab_tot {t : Tb} {n : Nat} (h : (t.map fun p => (p.2.length : Int)).sum ≤ n) : total t ≤ n := by
  have h2 := sum_nat (t.map fun p => p.2.length)
  rw [List.map_map] at h2
  have h2 : (t.map fun p => (p.2.length : Int)).sum = (total t : Nat) := h2
  omega
theorem allF_nm {t : Tb} (o : TbOk t) {hs : List (Str × Nat)} {ns : List Str} (h : ns ∈ allF t hs (st0 t)) : ∀ n ∈ ns, n ∈ nmT t := by
  rw [← pref_total o] at h
  exact prefO_nm o _ ns h
theorem allF_len1 {t : Tb} (o : TbOk t) {hs : List (Str × Nat)} {ns : List Str} (h : ns ∈ allF t hs (st0 t)) : ns.length = total t := by
  rw [← pref_total o] at h
  exact (prefO_ok o _ ns h).2.2
end LK
set_option Elab.async false
set_option linter.all false
set_option maxRecDepth 100000
set_option maxHeartbeats 1000000
namespace LK
open PySem PySem.Spec PyProof.Rows L2 DL
section
variable {P : Program} {w : World} {K : PySem.W.Frag} {mg : Str → Option Value} {base : Heap} {f : Addr} {fd : FuncData}
theorem ok_mix (F : FnP K "_law_mix" "_law_mix" f_Lmix f fd) (E : Env P w K mg base) : FnOk P w K mg base (L2.CX P w) 1 f fd ["_law_script", "_law_seed"] (spD K (sMix 14)) := by
  refine fn_d F sc_f_Lmix (fun I ds P R h => by obtain ⟨ns, seed, rfl, _⟩ := h; rfl) fun cdv A outer s H EE hr tk po I ds Q R h => ?_
  obtain ⟨ns, seed, rfl, hl, q⟩ := h
  have nd := sc_f_Lmix.nd
  refine s_cons (s_setP 2 (pv_v 1) ?_)
  refine s_cons (s_for po (ei_lst ((pv_v (d := .lsf (ns.map D.int)) 0).ev ⟨_, .inr rfl, fun i δ' I' => I' = I ∧ ∃ (st : Int) (o : Option D), δ' = [some (.lsf (ns.map D.int)), some (.int seed), some (.int st), o], ⟨rfl, seed, none, rfl⟩, ?_, ?_⟩)))
  · rintro i d δ' I' hd ⟨rfl, st, o, rfl⟩
    obtain ⟨n, hn⟩ : ∃ n, d = .int n := by
      rw [List.getElem?_map] at hd
      cases e : ns[i]? with
      | none => rw [e] at hd; cases hd
      | some n => rw [e] at hd; exact ⟨n, (Option.some.inj hd).symm⟩
    subst hn
    refine ⟨_, [3], bind_name 3, ?_⟩
    refine s_one (s_setP 2 (pv_op op_modN (pv_ct call_int1 E.b_int (va_cons (pv_op op_add (pv_op op_add (pv_op op_mul (pv_v 2) pv_int (p2_mul (.inr (by decide)))) (pv_op op_modN (pv_ct call_int1 E.b_int (va_cons (pv_v 3) va_nil) pn_int) pv_int (p2_mod (by decide))) p2_add) pv_int p2_add) va_nil) pn_int) pv_int (p2_mod (by decide))) ?_)
    exact ⟨rfl, _, _, rfl⟩
  · rintro δ' I' ⟨rfl, st, o, rfl⟩
    exact s_one (s_ret (ev_reg (ev_lstMM (ea_cons ((pv_v 2).ev (ea_cons (ev_ct call_list_of E.b_list (ea_cons ((pv_v 0).ev (ea_nil (on_listM (.inr (.inl rfl)) fun b hb => ea_cons (pv_int.ev (ea_cons (pv_int.ev (ea_nil ⟨by show 4 ≤ 1000; decide, fun a ha => ⟨_, iDr_of2 hl, q a b⟩⟩)))))))))))))))
theorem modm {k : Int} {l : Nat} : ∃ j : Nat, k.fmod (if (l : Int) > 1 then (l : Int) else 1) = j ∧ (j < l ∨ (l = 0 ∧ j = 0)) := by
  by_cases h : (l : Int) > 1
  · rw [if_pos h, Int.fmod_eq_emod_of_nonneg _ (by omega)]
    have h1 := Int.emod_nonneg k (show (l : Int) ≠ 0 by omega)
    have h2 := Int.emod_lt_of_pos k (show (0 : Int) < l by omega)
    exact ⟨(k % (l : Int)).toNat, by omega, by omega⟩
  · rw [if_neg h]
    exact ⟨0, by rw [Int.fmod_one]; rfl, by omega⟩
theorem atI_nat' {α : Type} {xs : List α} {j : Nat} {x : α} (h : xs[j]? = some x) : atI xs (j : Int) = some x := by
  have hl := (List.getElem?_eq_some_iff.mp h).1
  unfold atI ixN
  rw [if_pos (by omega), if_pos (by omega)]
  simpa using h
theorem ixN_nat {n j : Nat} (h : j < n) : ixN n (j : Int) = some j := by
  unfold ixN
  rw [if_pos (by omega), if_pos (by omega)]
  simp
theorem fmod_pos {z n : Int} (h : 0 < n) : 0 ≤ z.fmod n ∧ z.fmod n < n := by
  rw [Int.fmod_eq_emod_of_nonneg _ (by omega)]
  exact ⟨Int.emod_nonneg _ (by omega), Int.emod_lt_of_pos _ h⟩
theorem ok_next (F : FnP K "_law_next" "_law_next" f_Lnext f fd) (E : Env P w K mg base) : FnOk P w K mg base (L2.CX P w) 1 f fd ["_law_h", "_law_bound"] (spD K sNext) := by
  refine fn_d F sc_f_Lnext (fun I ds P R h => by obtain ⟨a, b, c, n, rfl, _⟩ := h; rfl) fun cdv A outer s H EE hr tk po I ds Q R h => ?_
  obtain ⟨a, b, c, n, rfl, rfl, n0, n1, q⟩ := h
  have nd := sc_f_Lnext.nd
  refine iDr_open fun st k m ns hl => ?_
  have eA : ∀ st k ns, c.fill (iDrC K a b st k m ns) = (c.comp (.l .here (iLst K b (ns.map D.int)))).fill (iLst K a [.int st, .adr b, .int k, .int m]) := fun st k ns => (fill_comp (I := iLst K a [.int st, .adr b, .int k, .int m]) (.l .here (iLst K b (ns.map D.int))) c).symm
  have eB : ∀ st k ns, c.fill (iDrC K a b st k m ns) = (c.comp (.r (iLst K a [.int st, .adr b, .int k, .int m]) .here)).fill (iLst K b (ns.map D.int)) := fun st k ns => (fill_comp (I := iLst K b (ns.map D.int)) (.r (iLst K a [.int st, .adr b, .int k, .int m]) .here) c).symm
  -- the place in the script
  obtain ⟨j, hj, hjl⟩ := modm (k := k) (l := (ns.map D.int).length)
  rw [List.length_map] at hjl
  obtain ⟨z, hz, hz0⟩ : ∃ z : Int, (ns.map D.int ++ [D.int 0])[j]? = some (.int z) ∧ (ns = [] → z = 0) := by
    rcases hjl with h | ⟨h, h0⟩
    · exact ⟨ns[j], by rw [List.getElem?_append_left (by simpa using h), List.getElem?_map, List.getElem?_eq_getElem h]; rfl, fun e => by subst e; simp at h⟩
    · have e : ns = [] := List.length_eq_zero_iff.mp h
      subst e h0
      exact ⟨0, rfl, fun _ => rfl⟩
  have m0 : (if ((ns.map D.int).length : Int) > 1 then ((ns.map D.int).length : Int) else 1) ≠ 0 := by split <;> omega
  refine s_cons (s_setP (d := .int z) 2 (pv_ix ix_list (pv_op op_cat (pv_ix ix_list (pv_v 0) pv_int (p2_ixM _ (by rfl) (eA _ _ _))) (pv_lst (va_cons pv_int va_nil)) (p2_catMK _ (by rw [List.length_map]; show ns.length + 1 ≤ _; omega) (eB _ _ _))) (pv_op op_modN (pv_ct call_int1 E.b_int (va_cons (pv_ix ix_list (pv_v 0) pv_int (p2_ixM _ (by rfl) (eA _ _ _))) va_nil) pn_int) (pv_cb (call_max2 rfl) E.b_max (va_cons pv_int (va_cons (pv_cb call_len_seq E.b_len (va_cons (pv_ix ix_list (pv_v 0) pv_int (p2_ixM _ (by rfl) (eA _ _ _))) va_nil) (pn_lenM _ (eB _ _ _))) va_nil)) pn_max2) (p2_mod m0)) (p2_ixL (by rw [hj]; exact atI_nat' hz))) ?_)
  refine s_cons (s_ifP (pt_cmp op_ge (pv_v 2) (pv_op op_pow pv_int pv_int (p2_pow ⟨by decide, by decide, by decide⟩)) p2_ge) (fun e => ?_) fun e => s_nil ?_)
  · have e2 : (10 : Int) ^ (18 : Int).toNat ≤ z := by simpa using e
    have hjn : j < ns.length := by
      rcases hjl with h | ⟨h, h0⟩
      · exact h
      · have e3 : ns = [] := List.length_eq_zero_iff.mp h
        rw [hz0 e3] at e2
        exact absurd e2 (by decide)
    refine s_cons (s_setItem (d := .int (z.fdiv n)) _ (pv_ix ix_list (pv_v 0) pv_int (p2_ixM _ (by rfl) (eA _ _ _))) (pv_op op_modN (pv_ct call_int1 E.b_int (va_cons (pv_ix ix_list (pv_v 0) pv_int (p2_ixM _ (by rfl) (eA _ _ _))) va_nil) pn_int) (pv_cb call_len_seq E.b_len (va_cons (pv_ix ix_list (pv_v 0) pv_int (p2_ixM _ (by rfl) (eA _ _ _))) va_nil) (pn_lenM _ (eB _ _ _))) (p2_mod (by rw [List.length_map]; omega))) (pv_op op_fdivN (pv_v 2) (pv_v 1) (p2_fdiv ⟨by omega, by omega⟩)) (j := j) ?_ ?_ (eB _ _ _))
    · have el : (if ((ns.map D.int).length : Int) > 1 then ((ns.map D.int).length : Int) else 1) = ((ns.map D.int).length : Int) := by
        rw [List.length_map]
        split <;> omega
      rw [← el, hj]
      exact ixN_nat (by rw [List.length_map]; exact hjn)
    · refine s_one (s_ret (ev_reg (PV.ev (pv_op op_modN (pv_ct call_int1 E.b_int (va_cons (pv_v 2) va_nil) pn_int) (pv_v 1) (p2_mod (by omega))) ⟨c.fill (iDr K a b), ?_, q _ (fmod_pos n0).1 (fmod_pos n0).2⟩)))
      show DL.Sub ((c.comp (.r (iLst K a [.int st, .adr b, .int k, .int m]) .here)).fill (iLst K b ((ns.map D.int).set j (.int (z.fdiv n))))) (c.fill (iDr K a b))
      rw [← List.map_set, ← eB st k (ns.set j (z.fdiv n))]
      exact (iDr_of (by rw [List.length_set]; exact hl)).fill c
  · refine s_cons (s_setItem (d := .int ((st * 48271 + z * 69621 + 11).fmod 2147483647)) _ (pv_v 0) pv_int (pv_op op_modN (pv_ct call_int1 E.b_int (va_cons (pv_op op_add (pv_op op_add (pv_op op_mul (pv_ix ix_list (pv_v 0) pv_int (p2_ixM _ (by rfl) (eA _ _ _))) pv_int (p2_mul (.inr (by decide)))) (pv_op op_mul (pv_v 2) pv_int (p2_mul (.inr (by decide)))) p2_add) pv_int p2_add) va_nil) pn_int) pv_int (p2_mod (by decide))) (j := 0) (by rfl) ?_ (eA _ _ _))
    refine SX.eq (eA _ k ns).symm ?_
    refine s_cons (s_setItem (d := .int (k + 1)) _ (pv_v 0) pv_int (pv_op op_add (pv_ix ix_list (pv_v 0) pv_int (p2_ixM _ (by rfl) (eA _ _ _))) pv_int p2_add) (j := 2) (by rfl) ?_ (eA _ _ _))
    refine SX.eq (eA _ (k + 1) ns).symm ?_
    exact s_one (s_ret (ev_reg (PV.ev (pv_op op_modN (pv_ct call_int1 E.b_int (va_cons (pv_op op_fdivN (pv_ix ix_list (pv_v 0) pv_int (p2_ixM _ (by rfl) (eA _ _ _))) pv_int (p2_fdiv ⟨by decide, by decide⟩)) va_nil) pn_int) (pv_v 1) (p2_mod (by omega))) ⟨c.fill (iDr K a b), (iDr_of hl).fill c, q _ (fmod_pos n0).1 (fmod_pos n0).2⟩)))
end
abbrev ALPH : List Nat := [97, 98, 120, 39, 32, 48, 47, 57, 126, 122, 59, 58]
/-- texts of three signs come anyway -/
def mx (m : Int) : Int := if m < 3 then 3 else m
theorem mx_le {m n : Int} (h : 3 ≤ n) (k : m ≤ n) : mx m ≤ n := by unfold mx; split <;> omega
def sLetters {K : PySem.W.Frag} : Spec K := fun I ds P _ => ∃ (a b : Addr) (c : Rc K) (most : Int), ds = [.adr a, .int most] ∧ I = c.fill (iDr K a b) ∧ 0 ≤ most ∧ most < 10000 ∧
  ∀ s : Str, (s.length : Int) ≤ mx most → (∀ ch ∈ s.cps.toList, ch ∈ ALPH) → P (.str s) I
theorem lenStr_le {s : Str} {n : Int} (h : (s.length : Int) ≤ n) (hn : n < 10000) : s.length ≤ 100000 := by omega
section
variable {P : Program} {w : World} {K : PySem.W.Frag} {mg : Str → Option Value} {base : Heap} {f : Addr} {fd : FuncData}
theorem ok_letters (F : FnP K "_law_letters" "_law_letters" f_Lletters f fd) (E : Env P w K mg base) (DN : Def P w K mg base "_law_next" 1 ["_law_h", "_law_bound"] [] sNext) : FnOk P w K mg base (L2.CX P w) 2 f fd ["_law_h", "_law_most"] (spD K sLetters) := by
  refine fn_d F sc_f_Lletters (fun I ds P R h => by obtain ⟨a, b, c, m, rfl, _⟩ := h; rfl) fun cdv A outer s H EE hr tk po I ds Q R h => ?_
  obtain ⟨a, b, c, m, rfl, rfl, m0, m1, q⟩ := h
  have nd := sc_f_Lletters.nd
  have hx : 3 ≤ mx m ∧ m ≤ mx m ∧ mx m < 10000 := by unfold mx; split <;> omega
  -- the signs
  refine s_cons (s_set 2 (ev_ix ix_list (PV.ev (pv_lst (va_cons pv_str (va_cons pv_str (va_cons pv_str (va_cons pv_str va_nil))))) (ev_nextP tk DN hr c (pv_v 0) pv_int rfl (by decide) fun k k0 k1 => o2_ixL k0 k1 fun d hd => ?_))))
  obtain ⟨sg, rfl, hsg, hsl⟩ : ∃ sg : Str, d = .str sg ∧ (∀ ch ∈ sg.cps.toList, ch ∈ ALPH) ∧ 0 < sg.cps.toList.length ∧ sg.cps.toList.length ≤ 10 := by
    simp only [List.mem_cons, List.not_mem_nil, or_false] at hd
    rcases hd with rfl | rfl | rfl | rfl <;> exact ⟨_, rfl, by decide +kernel, by decide +kernel, by decide +kernel⟩
  -- the size
  refine s_cons (s_set 3 (ev_ix ix_list (ev_lst ?_)))
  iterate 6 refine ea_cons (pv_int.ev ?_)
  refine ea_cons ((pv_v 1).ev ?_)
  refine ea_cons (ev_nextP tk DN hr c (pv_v 0) (pv_op op_add (pv_v 1) pv_int p2_add) rfl (by omega) fun j j0 j1 => ea_nil ⟨by show 8 ≤ 1000; decide, ?_⟩)
  refine ev_nextP tk DN hr c (pv_v 0) pv_int rfl (by decide) fun k k0 k1 => o2_ixL k0 k1 fun d hd => ?_
  obtain ⟨z, rfl, z0, z1⟩ : ∃ z : Int, d = D.int z ∧ 0 ≤ z ∧ z ≤ mx m := by
    simp only [List.mem_cons, List.not_mem_nil, or_false] at hd
    rcases hd with rfl | rfl | rfl | rfl | rfl | rfl | rfl | rfl <;> exact ⟨_, rfl, by omega, by omega⟩
  -- the text
  refine s_one (s_ret (ev_join (pv_str (w := "")) (ev_lc [("_law_k", 4)] nd (blkOk_by (by rfl)) (ei_range1 E.b_range ((pv_v 3).ev ⟨z, rfl, by omega, by omega, ?_⟩)))))
  refine ⟨by unfold DL.intsFrom; simp; omega, fun i ys => ∃ cs : List Nat, ys = (cs.map one).map D.str ∧ cs.length = i ∧ ∀ ch ∈ cs, ch ∈ ALPH, fun d => [some (.adr a), some (.int m), some (.str sg), some (.int z), some d], ⟨[], rfl, rfl, fun _ h => nomatch h⟩, ?_, ?_⟩
  · rintro i d ys hd ⟨cs, rfl, hcl, hca⟩
    refine ⟨fun b => b = true, fun J s H C cl fp => ⟨bind_name 4, ets_nil ⟨rfl, rfl⟩⟩, fun _ J s H C cl fp => ?_, fun e => nomatch (show false = true from e)⟩
    refine ev_ix ix_str ((pv_v 2).ev (ev_nextP takesF DN hr (.l c J) (pv_v 0) (pv_cb call_len_str E.b_len (va_cons (pv_v 2) va_nil) (pn_lenS (by rw [str_len]; omega))) rfl (by rw [str_len]; omega) fun k k0 k1 => ?_))
    obtain ⟨n, rfl⟩ : ∃ n : Nat, k = n := ⟨k.toNat, by omega⟩
    have hn : n < sg.cps.toList.length := by rw [str_len] at k1; omega
    refine p2_ixS (c := sg.cps.toList[n]) (by rw [str_len, sizeLine_eq]; omega) (atI_nat' (List.getElem?_eq_getElem hn)) _ ⟨rfl, cs ++ [sg.cps.toList[n]], ?_, by simp [hcl], ?_⟩
    · rw [List.map_append, List.map_append]; rfl
    · intro ch hch
      rcases List.mem_append.mp hch with h | h
      · exact hca ch h
      · rw [List.mem_singleton.mp h]; exact hsg _ (List.getElem_mem hn)
  · rintro ys ⟨cs, rfl, hcl, hca⟩
    have hl : cs.length = z.toNat := by rw [hcl]; unfold DL.intsFrom; simp
    refine ⟨cs.map one, rfl, ?_, ?_⟩
    · have e : ((cs.map one).map (·.length)).sum = cs.length := by
        clear hcl hca hl
        induction cs with
        | nil => rfl
        | cons c cs ih => simp only [List.map_cons, List.sum_cons, ih, List.length_cons]; show 1 + _ = _; omega
      rw [e]
      show cs.length + (cs.map one).length * 0 ≤ _
      omega
    · rw [join_ones _ rfl]
      refine q _ ?_ ?_
      · rw [str_len]; show (cs.length : Int) ≤ mx m; omega
      · exact hca
end
abbrev forms5 : List Str := ["say", "ask", "reply", "show", "line"]
/-- a random write of a form -/
structure OneOk (form : Str) (most : Int) (k t l e : Str) : Prop where
  g : GoodW k t l e
  f : k = if form = "line" then ("say" : Str) else form
  ln : form = "line" → l = "" ∧ e = "newline"
  z : ∃ z : Str, (z.length : Int) ≤ most ∧ (∀ ch ∈ z.cps.toList, ch ∈ ALPH) ∧ t = if k = "ask" then z ++ "?" else if k = "reply" then z ++ "y" else z
def sOne {K : PySem.W.Frag} : Spec K := fun I ds P _ => ∃ (a b : Addr) (c : Rc K) (form : Str) (most : Int), ds = [.adr a, .str form, .int most] ∧ I = c.fill (iDr K a b) ∧ form ∈ forms5 ∧ 0 ≤ most ∧ most < 9000 ∧
  ∀ k t l e, OneOk form (mx most) k t l e → P (.tup [.str k, .str t, .str l, .str e]) I
theorem alph_signs : ∀ c ∈ ALPH, c ∈ SIGNS.cps.toList := by decide +kernel
theorem one_q : (∀ c ∈ (Str.ofString "?").cps.toList, c ∈ SIGNS.cps.toList) ∧ (∀ c ∈ (Str.ofString "y").cps.toList, c ∈ SIGNS.cps.toList) := by decide +kernel
theorem app_signs {z y : Str} (h1 : ∀ c ∈ z.cps.toList, c ∈ ALPH) (h2 : ∀ c ∈ y.cps.toList, c ∈ SIGNS.cps.toList) : ∀ c ∈ (z ++ y).cps.toList, c ∈ SIGNS.cps.toList := fun c hc => by
  rw [str_app] at hc
  exact (List.mem_append.mp hc).elim (fun h => alph_signs c (h1 c h)) (h2 c)
theorem app_len {z y : Str} : (z ++ y).length = z.length + y.length := by rw [str_len, str_app, List.length_append, ← str_len, ← str_len]
section
variable {P : Program} {w : World} {K : PySem.W.Frag} {mg : Str → Option Value} {base : Heap} {f : Addr} {fd : FuncData}
theorem ok_one (F : FnP K "_law_one" "_law_one" f_Lone f fd) (DN : Def P w K mg base "_law_next" 1 ["_law_h", "_law_bound"] [] sNext) (DL : Def P w K mg base "_law_letters" 2 ["_law_h", "_law_most"] [] sLetters) : FnOk P w K mg base (L2.CX P w) 3 f fd ["_law_h", "_law_form", "_law_most"] (spD K sOne) := by
  refine fn_d F sc_f_Lone (fun I ds P R h => by obtain ⟨a, b, c, form, m, rfl, _⟩ := h; rfl) fun cdv A outer s H EE hr tk po I ds Q R h => ?_
  obtain ⟨a, b, c, form, m, rfl, rfl, hf, m0, m1, q⟩ := h
  have nd := sc_f_Lone.nd
  have hmx : mx m < 9000 := by unfold mx; split <;> omega
  have hr1 : Room 1 _ := hr.mono (by decide)
  refine s_cons (s_set 3 (ev_def tk DL hr (ea_cons ((pv_v 0).ev (ea_cons ((pv_v 2).ev (ea_nil ⟨a, b, c, m, rfl, rfl, m0, by omega, fun z hz hza => ?_⟩)))))))
  refine s_cons (s_set 4 (ev_pick tk DN hr1 c (pv_lst (va_cons pv_str (va_cons pv_str (va_cons pv_str (va_cons pv_str (va_cons pv_str (va_cons pv_str va_nil))))))) (pv_v 0) (pv_int.ev ⟨_, rfl, rfl, by decide, by decide, by decide⟩) rfl fun dl hl0 => ?_))
  obtain ⟨l, rfl, hl⟩ : ∃ l, dl = .str l ∧ l ∈ leads := by
    simp only [List.mem_cons, List.not_mem_nil, or_false] at hl0
    rcases hl0 with rfl | rfl | rfl | rfl | rfl | rfl <;> exact ⟨_, rfl, by decide +kernel⟩
  refine s_cons (s_set 5 (ev_pick tk DN hr1 c (pv_lst (va_cons pv_str (va_cons pv_str (va_cons pv_str (va_cons pv_str (va_cons pv_str va_nil)))))) (pv_v 0) (pv_int.ev ⟨_, rfl, rfl, by decide, by decide, by decide⟩) rfl fun de he0 => ?_))
  obtain ⟨e, rfl, he⟩ : ∃ e, de = .str e ∧ e ∈ tails := by
    simp only [List.mem_cons, List.not_mem_nil, or_false] at he0
    rcases he0 with rfl | rfl | rfl | rfl | rfl <;> exact ⟨_, rfl, by decide +kernel⟩
  have hzs : ∀ c ∈ z.cps.toList, c ∈ SIGNS.cps.toList := fun c hc => alph_signs c (hza c hc)
  refine s_cons (s_ifP (pt_cmp op_eq (pv_v 1) pv_str (eqV_str form "line")) (fun e1 => ?_) fun e1 => s_nil ?_)
  · refine s_one (s_retP (pv_tup (va_cons pv_str (va_cons (pv_v 3) (va_cons pv_str (va_cons pv_str va_nil))))) (q _ _ _ _ ⟨⟨by decide +kernel, by decide +kernel, by decide +kernel, fun h => absurd h (by decide +kernel), fun h => absurd h (by decide +kernel), fun h => absurd h (by decide +kernel), hzs⟩, ?_, fun _ => ⟨rfl, rfl⟩, z, hz, hza, ?_⟩))
    · rw [if_pos (of_decide_eq_true e1)]
    · rw [if_neg (by decide +kernel), if_neg (by decide +kernel)]
  have n1 : form ≠ "line" := of_decide_eq_false e1
  refine s_cons (s_ifP (pt_cmp op_eq (pv_v 1) pv_str (eqV_str form "ask")) (fun e2 => ?_) fun e2 => s_nil ?_)
  · have h2 : form = "ask" := of_decide_eq_true e2
    refine s_one (s_retP (pv_tup (va_cons pv_str (va_cons (pv_op op_addT (pv_v 3) pv_str (p2_addT ?_)) (va_cons (pv_v 4) (va_cons pv_str va_nil))))) (q _ _ _ _ ⟨⟨by decide +kernel, hl, by decide +kernel, fun h => absurd h (by decide +kernel), fun _ => rfl, fun _ => ?_, app_signs hza one_q.1⟩, ?_, fun h => absurd h n1, z, hz, hza, ?_⟩))
    · show z.length + 1 ≤ _; omega
    · rw [app_len]; show 0 < z.length + 1; omega
    · rw [if_neg n1, h2]
    · rw [if_pos rfl]
  have n2 : form ≠ "ask" := of_decide_eq_false e2
  refine s_cons (s_ifP (pt_cmp op_eq (pv_v 1) pv_str (eqV_str form "reply")) (fun e3 => ?_) fun e3 => s_nil ?_)
  · have h3 : form = "reply" := of_decide_eq_true e3
    refine s_one (s_retP (pv_tup (va_cons pv_str (va_cons (pv_op op_addT (pv_v 3) pv_str (p2_addT ?_)) (va_cons pv_str (va_cons (pv_v 5) va_nil))))) (q _ _ _ _ ⟨⟨by decide +kernel, by decide +kernel, he, fun _ => rfl, fun h => absurd h (by decide +kernel), fun _ => ?_, app_signs hza one_q.2⟩, ?_, fun h => absurd h n1, z, hz, hza, ?_⟩))
    · show z.length + 1 ≤ _; omega
    · rw [app_len]; show 0 < z.length + 1; omega
    · rw [if_neg n1, h3]
    · rw [if_neg (by decide +kernel), if_pos rfl]
  have n3 : form ≠ "reply" := of_decide_eq_false e3
  have hk : form ∈ kinds := by
    simp only [List.mem_cons, List.not_mem_nil, or_false] at hf ⊢
    rcases hf with h | h | h | h | h
    · exact .inl h
    · exact absurd h n2
    · exact absurd h n3
    · exact .inr (.inr (.inr h))
    · exact absurd h n1
  refine s_one (s_retP (pv_tup (va_cons (pv_v 1) (va_cons (pv_v 3) (va_cons (pv_v 4) (va_cons (pv_v 5) va_nil))))) (q _ _ _ _ ⟨⟨hk, hl, he, fun h => absurd h n3, fun h => absurd h n2, fun h => absurd h (fun h => h.elim n2 n3), hzs⟩, ?_, fun h => absurd h n1, z, hz, hza, ?_⟩))
  · rw [if_neg n1]
  · rw [if_neg n2, if_neg n3]
theorem D_mix (E : Env P w K mg base) : Def P w K mg base "_law_mix" 1 ["_law_script", "_law_seed"] [] (sMix 14) := mk_f_Lmix E fun fd F => ok_mix F E
theorem D_next (E : Env P w K mg base) : Def P w K mg base "_law_next" 1 ["_law_h", "_law_bound"] [] sNext := mk_f_Lnext E fun fd F => ok_next F E
theorem D_letters (E : Env P w K mg base) : Def P w K mg base "_law_letters" 2 ["_law_h", "_law_most"] [] sLetters := mk_f_Lletters E fun fd F => ok_letters F E (D_next E)
theorem D_one (E : Env P w K mg base) : Def P w K mg base "_law_one" 3 ["_law_h", "_law_form", "_law_most"] [] sOne := mk_f_Lone E fun fd F => ok_one F (D_next E) (D_letters E)
end
end LK
set_option Elab.async false
set_option linter.all false
set_option maxRecDepth 100000
set_option maxHeartbeats 1000000
namespace LK
open PySem PySem.Spec PyProof.Rows L2 DL
/-! ### random rows, tables -/
inductive Wl : List Str → Prop
  | nil : Wl []
  | one {ks : List Str} {k : Str} : Wl ks → k ∈ (["say", "show"] : List Str) → Wl (ks ++ [k])
  | two {ks : List Str} : Wl ks → Wl (ks ++ (["ask", "reply"] : List Str))
theorem kb_ext {ks zs : List Str} {k : Str} {i : Nat} (hi : i < ks.length) (h : kindBad ks k i = false) : kindBad (ks ++ zs) k i = false := by
  unfold kindBad at h ⊢
  have e1 : (ks ++ zs).take i = ks.take i := by rw [List.take_append_of_le_length (by omega)]
  rw [e1]
  simp only [Bool.or_eq_false_iff, Bool.and_eq_false_iff, Bool.not_eq_false', decide_eq_false_iff_not, decide_eq_true_eq] at h ⊢
  refine ⟨⟨h.1.1, ?_⟩, h.2⟩
  rcases h.1.2 with h | h
  · exact .inl h
  · refine .inr ?_
    rw [List.drop_append_of_le_length (by omega)]
    have e2 : ∀ ys : List Str, ys.take 1 = (["reply"] : List Str) → (ys ++ zs).take 1 = (["reply"] : List Str) := fun ys hy => by
      cases ys with
      | nil => cases hy
      | cons y ys => exact hy
    exact e2 _ h
theorem Wl.bad {ks : List Str} (h : Wl ks) : ∀ y ∈ ks.zipIdx, kindBad ks y.1 y.2 = false := by
  induction h with
  | nil => intro y hy; cases hy
  | @one ks k h hk ih =>
    rintro ⟨x, i⟩ hy
    rw [List.zipIdx_append] at hy
    rcases List.mem_append.mp hy with hy | hy
    · exact kb_ext (by have := (List.getElem?_eq_some_iff.mp (mem_zipIdx hy)).1; exact this) (ih _ hy)
    · simp only [List.zipIdx_cons, List.zipIdx_nil, List.mem_singleton, Prod.mk.injEq] at hy
      obtain ⟨hx, hi⟩ := hy
      subst hx hi
      have hk2 : x ≠ "" ∧ x ≠ "ask" ∧ x ≠ "reply" := by
        simp only [List.mem_cons, List.not_mem_nil, or_false] at hk
        rcases hk with rfl | rfl <;> exact ⟨by decide +kernel, by decide +kernel, by decide +kernel⟩
      unfold kindBad
      rw [decide_eq_false hk2.1, decide_eq_false hk2.2.1, decide_eq_false hk2.2.2]; rfl
  | @two ks h ih =>
    rintro ⟨x, i⟩ hy
    rw [List.zipIdx_append] at hy
    rcases List.mem_append.mp hy with hy | hy
    · exact kb_ext (by have := (List.getElem?_eq_some_iff.mp (mem_zipIdx hy)).1; exact this) (ih _ hy)
    · simp only [List.zipIdx_cons, List.zipIdx_nil, List.mem_cons, List.not_mem_nil, or_false, Prod.mk.injEq] at hy
      rcases hy with ⟨rfl, rfl⟩ | ⟨rfl, rfl⟩
      · unfold kindBad
        have e1 : ((ks ++ (["ask", "reply"] : List Str)).drop (0 + ks.length + 1)).take 1 = (["reply"] : List Str) := by
          rw [List.drop_append, List.drop_eq_nil_of_le (by omega), show 0 + ks.length + 1 - ks.length = 1 by omega]; rfl
        rw [e1, decide_eq_false (show ("ask" : Str) ≠ "" by decide +kernel), decide_eq_false (show ("ask" : Str) ≠ "reply" by decide +kernel)]
        simp
      · unfold kindBad
        have e1 : (ks ++ (["ask", "reply"] : List Str)).take (0 + ks.length + 1) = ks ++ (["ask"] : List Str) := by
          rw [List.take_append, List.take_of_length_le (by omega), show 0 + ks.length + 1 - ks.length = 1 by omega]; rfl
        have e2 : (ks ++ (["ask"] : List Str)).drop ((ks ++ (["ask"] : List Str)).length - 1) = (["ask"] : List Str) := by
          rw [List.length_append, List.drop_append, List.drop_eq_nil_of_le (by simp)]; simp
        rw [e1, e2, decide_eq_false (show ("reply" : Str) ≠ "" by decide +kernel), decide_eq_false (show ("reply" : Str) ≠ "ask" by decide +kernel)]
        simp
theorem Wl.fault {ks : List Str} (h : Wl ks) : kindFault ks = none := kind_none h.bad
structure RowG (most : Int) (ws : List Wr) : Prop where
  wl : Wl (ws.map (·.k))
  one : ∀ w ∈ ws, ∃ form ∈ forms5, OneOk form most w.k w.t w.l w.e
theorem OneOk.len {form : Str} {most : Int} {k t l e : Str} (o : OneOk form most k t l e) (h : most ≤ 39) : t.length ≤ 40 := by
  obtain ⟨z, h1, h2, e1⟩ := o.z
  rw [e1]
  split
  · rw [app_len, show (Str.ofString "?").length = 1 from rfl]; omega
  · split
    · rw [app_len, show (Str.ofString "y").length = 1 from rfl]; omega
    · omega
theorem RowG.ok {most : Int} {ws : List Wr} (g : RowG most ws) (hm : most ≤ 39) (n : 1 ≤ ws.length) (m : ws.length ≤ 8) : RowOk ws :=
  ⟨fun w hw => by
    obtain ⟨form, _, o⟩ := g.one w hw
    exact ⟨o.g, o.len hm⟩, n, m, g.wl.fault⟩
/-- what may come next -/
def Ready (most : Int) (ws : List Wr) (form : Str) : Prop := form ∈ forms5 ∧ ∀ k t l e, OneOk form most k t l e → RowG most (ws ++ [⟨k, t, l, e⟩])
theorem RowG.next {most : Int} {ws : List Wr} (g : RowG most ws) {form : Str} (hf : form ∈ (["say", "show", "line"] : List Str)) : Ready most ws form := by
  have h5 : form ∈ forms5 := by
    simp only [List.mem_cons, List.not_mem_nil, or_false] at hf ⊢
    rcases hf with h | h | h <;> simp [h]
  refine ⟨h5, fun k t l e o => ⟨?_, fun w hw => ?_⟩⟩
  · rw [List.map_append]
    refine .one g.wl ?_
    show k ∈ _
    rw [o.f]
    simp only [List.mem_cons, List.not_mem_nil, or_false] at hf
    rcases hf with rfl | rfl | rfl <;> decide +kernel
  · rcases List.mem_append.mp hw with h | h
    · exact g.one w h
    · rw [List.mem_singleton.mp h]; exact ⟨form, h5, o⟩
theorem RowG.reply {most : Int} {ws : List Wr} (g : RowG most ws) {w : Wr} (hw : OneOk "ask" most w.k w.t w.l w.e) : Ready most (ws ++ [w]) "reply" := by
  refine ⟨by decide +kernel, fun k t l e o => ⟨?_, fun v hv => ?_⟩⟩
  · rw [List.map_append, List.map_append, List.append_assoc]
    have e1 : w.k = "ask" := hw.f.trans (by decide +kernel)
    have e2 : k = "reply" := o.f.trans (by decide +kernel)
    show Wl (_ ++ [w.k, k])
    rw [e1, e2]
    exact .two g.wl
  · rcases List.mem_append.mp hv with h | h
    · rcases List.mem_append.mp h with h | h
      · exact g.one v h
      · rw [List.mem_singleton.mp h]; exact ⟨"ask", by decide +kernel, hw⟩
    · rw [List.mem_singleton.mp h]; exact ⟨"reply", by decide +kernel, o⟩
def sRow {K : PySem.W.Frag} : Spec K := fun I ds P _ => ∃ (a b : Addr) (c : Rc K) (many most : Int), ds = [.adr a, .int many, .int most] ∧ I = c.fill (iDr K a b) ∧ 0 ≤ many ∧ many ≤ 1000 ∧ 0 ≤ most ∧ most < 9000 ∧
  ∀ ws, RowG (mx most) ws → (ws.length : Int) = many → ∀ p, P (.adr p) (I.and (iLst K p (ws.map wr4)))
abbrev nm6 : List Str := ["a", "log", "who", "b", "zzzzzzzz", "cc"]
abbrev tD (t : Tb) : D := dicT t (·.1) (fun p => .lst (p.2.map wr4))
structure TabG (works : Nat) (total most : Int) (t : Tb) : Prop where
  sub : (t.map (·.1)).Sublist nm6
  n : 1 ≤ t.length
  m : t.length ≤ works
  row : ∀ p ∈ t, RowG most p.2 ∧ 1 ≤ p.2.length ∧ p.2.length ≤ 3
  tot : ((t.map fun p => p.2.length).sum : Int) ≤ total
theorem nm6_nd : nm6.Nodup := by decide +kernel
theorem nm6_ok : ∀ s ∈ nm6, isNameS s = true := by decide +kernel
theorem TabG.nd {works : Nat} {total most : Int} {t : Tb} (g : TabG works total most t) : (t.map (·.1)).Nodup := nm6_nd.sublist g.sub
theorem TabG.ok {works : Nat} {total most : Int} {t : Tb} (g : TabG works total most t) (hm : most ≤ 39) : TbOk t :=
  ⟨g.nd, fun p hp => nm6_ok _ (g.sub.subset (List.mem_map_of_mem hp)), fun p hp => (g.row p hp).1.ok hm (g.row p hp).2.1 (by have := (g.row p hp).2.2; omega), g.n, by have := g.sub.length_le; rw [List.length_map] at this; exact this⟩
def sTable {K : PySem.W.Frag} : Spec K := fun I ds P _ => ∃ (a b : Addr) (c : Rc K) (works : Nat) (total most : Int), ds = [.adr a, .int works, .int total, .int most] ∧ I = c.fill (iDr K a b) ∧ 1 ≤ works ∧ works ≤ 6 ∧ 1 ≤ total ∧ total < 1000 ∧ 0 ≤ most ∧ most < 9000 ∧
  ∀ t, TabG works total (mx most) t → ∀ p, P (.adr p) (I.and (iDic K p (t.map fun x => (.inr x.1, .lst (x.2.map wr4)))))
def sBuilt {K : PySem.W.Frag} : Spec K := fun I ds P _ => ∃ t, ds = [tD t] ∧ TbOk t ∧ P (cD K (sortW t)) I
def sGapsof {K : PySem.W.Frag} (f : Tb → List (Str × Nat)) : Spec K := fun I ds P _ => ∃ t, ds = [tD t] ∧ TbOk t ∧ P (.lst ((f (sortW t)).map pairD)) I
section
variable {P : Program} {w : World} {K : PySem.W.Frag} {mg : Str → Option Value} {base : Heap}
theorem D_rowof (E : Env P w K mg base) : Def P w K mg base "_law_rowof" 4 ["_law_h", "_law_many", "_law_most"] [] sRow := mk_f_Lrowof E fun fd F => by
  refine fn_d F sc_f_Lrowof (fun I ds P R h => by obtain ⟨a, b, c, many, most, rfl, _⟩ := h; rfl) fun cdv A outer s H EE hr tk po I ds Q R h => ?_
  obtain ⟨a, b, c, many, most, rfl, rfl, n0, n1, m0, m1, q⟩ := h
  have nd := sc_f_Lrowof.nd
  have hu := hr.units
  have hr1 : Room 1 _ := hr.mono (by decide)
  have hr3 : Room 3 _ := hr
  refine s_cons (s_set 3 (ev_lstM' va_nil (by decide) fun x => ?_))
  refine s_cons (s_whileP po (fun m δ' I' => ∃ (ws : List Wr) (o : Option D), RowG (mx most) ws ∧ (ws.length : Int) ≤ many ∧ m = (many - ws.length).toNat ∧ I' = (c.fill (iDr K a b)).and (iLst K x (ws.map wr4)) ∧ δ' = [some (.adr a), some (.int many), some (.int most), some (.adr x), o]) many.toNat ⟨[], none, ⟨.nil, fun w hw => nomatch hw⟩, by simpa using n0, by simp, rfl, rfl⟩ ?_)
  rintro m δ' I' ⟨ws, o, g, hl, rfl, rfl, rfl⟩
  refine ⟨_, DL.pt_cmp op_lt (pv_cb call_len_seq E.b_len (va_cons (pv_v 3) va_nil) (pn_lenM (.r _ .here))) (pv_v 1) p2_lt, fun hlt => ?_, fun hlt => ?_⟩
  · have hlt : (ws.length : Int) < many := by rw [List.length_map] at hlt; exact of_decide_eq_true hlt
    refine s_cons (s_set 4 (ev_pick tk (D_next E) hr1 (.l c (iLst K x (ws.map wr4))) (pv_lst (va_cons pv_str (va_cons pv_str (va_cons pv_str (va_cons pv_str (va_cons pv_str (va_cons pv_str va_nil))))))) (pv_v 0) (pv_int.ev ⟨_, rfl, rfl, by decide, by decide, by decide⟩) rfl fun d hd => ?_))
    obtain ⟨form, rfl, hf⟩ : ∃ form, d = .str form ∧ (form ∈ (["say", "show", "line"] : List Str) ∨ form = "ask") := by
      simp only [List.mem_cons, List.not_mem_nil, or_false] at hd
      rcases hd with rfl | rfl | rfl | rfl | rfl | rfl <;> exact ⟨_, rfl, by decide +kernel⟩
    refine s_cons (s_joint (fun δ2 I2 => ∃ ws2 form2, ((form2 ∈ (["say", "show", "line"] : List Str) ∨ form2 = "ask") ∧ RowG (mx most) ws2 ∨ form2 = "reply" ∧ Ready (mx most) ws2 form2) ∧ ws.length ≤ ws2.length ∧ (ws2.length : Int) + 1 ≤ many ∧ I2 = (c.fill (iDr K a b)).and (iLst K x (ws2.map wr4)) ∧ δ2 = [some (.adr a), some (.int many), some (.int most), some (.adr x), some (.str form2)]) (s_ifP (ptw (ww_and (pt_eq hu (pv_v 4) pv_str trivial) fun _ => ww_and1 (DL.pt_cmp op_le (pv_op op_add (pv_cb call_len_seq E.b_len (va_cons (pv_v 3) va_nil) (pn_lenM (.r _ .here))) pv_int p2_add) (pv_v 1) p2_le))) (fun e1 => ?_) fun e1 => s_nil ?_) ?_)
    · have e2 : (ws.length : Int) + 2 ≤ many := by
        simp only [Bool.and_eq_true, decide_eq_true_eq, List.length_map] at e1
        exact e1.2
      refine s_cons (s_append (.r _ .here) (pv_v 3) rfl (ev_def tk (D_one E) hr3 (ea_cons ((pv_v 0).ev (ea_cons (pv_str.ev (ea_cons ((pv_v 2).ev (ea_nil ⟨a, b, .l c (iLst K x (ws.map wr4)), "ask", most, rfl, rfl, by decide +kernel, m0, m1, fun k t l e ok => ⟨rfl, by rw [List.length_map]; omega, ?_⟩⟩)))))))))
      refine s_one (s_setP 4 pv_str ?_)
      refine ⟨ws ++ [⟨k, t, l, e⟩], "reply", .inr ⟨rfl, g.reply ok⟩, by simp, by rw [List.length_append]; simp only [List.length_cons, List.length_nil]; omega, ?_, rfl⟩
      show (c.fill (iDr K a b)).and (iLst K x (ws.map wr4 ++ [_])) = _
      rw [List.map_append]; rfl
    · exact ⟨ws, form, .inl ⟨hf, g⟩, Nat.le_refl _, by omega, rfl, rfl⟩
    · rintro δ2 I2 ⟨ws2, form2, hg2, hl2, hl3, rfl, rfl⟩
      refine s_cons (s_joint (fun δ3 I3 => ∃ form3, Ready (mx most) ws2 form3 ∧ I3 = (c.fill (iDr K a b)).and (iLst K x (ws2.map wr4)) ∧ δ3 = [some (.adr a), some (.int many), some (.int most), some (.adr x), some (.str form3)]) (s_ifP (pt_eq hu (pv_v 4) pv_str trivial) (fun e1 => ?_) fun e1 => s_nil ?_) ?_)
      · have e2 : form2 = "ask" := of_decide_eq_true e1
        have g2 : RowG (mx most) ws2 := by
          rcases hg2 with h | h
          · exact h.2
          · rw [e2] at h; exact absurd h.1 (by decide +kernel)
        refine s_one (s_setP 4 pv_str ?_)
        exact ⟨"line", g2.next (by decide +kernel), rfl, rfl⟩
      · have e2 : form2 ≠ "ask" := of_decide_eq_false e1
        refine ⟨form2, ?_, rfl, rfl⟩
        rcases hg2 with h | h
        · exact h.2.next (h.1.resolve_right e2)
        · exact h.2
      · rintro δ3 I3 ⟨form3, hr', rfl, rfl⟩
        refine s_one (s_append (.r _ .here) (pv_v 3) rfl (ev_def tk (D_one E) hr3 (ea_cons ((pv_v 0).ev (ea_cons ((pv_v 4).ev (ea_cons ((pv_v 2).ev (ea_nil ⟨a, b, .l c (iLst K x (ws2.map wr4)), form3, most, rfl, rfl, hr'.1, m0, m1, fun k t l e ok => ⟨rfl, by rw [List.length_map]; omega, ?_⟩⟩)))))))))
        refine ⟨(many - (ws2 ++ ([⟨k, t, l, e⟩] : List Wr)).length).toNat, ?_, ws2 ++ [⟨k, t, l, e⟩], _, hr'.2 _ _ _ _ ok, ?_, rfl, ?_, rfl⟩
        · rw [List.length_append]; simp only [List.length_cons, List.length_nil]; omega
        · rw [List.length_append]; simp only [List.length_cons, List.length_nil]; omega
        · show (c.fill (iDr K a b)).and (iLst K x (ws2.map wr4 ++ [_])) = _
          rw [List.map_append]; rfl
  · have hlt : ¬ (ws.length : Int) < many := by rw [List.length_map] at hlt; exact of_decide_eq_false hlt
    exact s_one (s_retP (pv_v 3) (q ws g (by omega) x))
end
end LK
set_option Elab.async false
set_option linter.all false
set_option maxRecDepth 100000
set_option maxHeartbeats 1000000
namespace LK
open PySem PySem.Spec PyProof.Rows L2 DL
theorem sub_take {k : Nat} {p r : List Str} {x : Str} {ns : List Str} (e : nm6.take k = p ++ x :: r) (h : ns.Sublist p) : x ∉ ns ∧ (ns ++ [x]).Sublist (p ++ [x]) := by
  refine ⟨fun hx => ?_, h.append (List.Sublist.refl _)⟩
  have nd : (nm6.take k).Nodup := nm6_nd.sublist (List.take_sublist _ _)
  rw [e] at nd
  have := (List.nodup_append.mp nd).2.2 x (h.subset hx) x (by simp)
  exact this rfl
/-- what the loop has made -/
structure TabI (total most l : Int) (p : List Str) (t : Tb) : Prop where
  sub : (t.map (·.1)).Sublist p
  row : ∀ p ∈ t, RowG most p.2 ∧ 1 ≤ p.2.length ∧ p.2.length ≤ 3
  tot : ((t.map fun p => p.2.length).sum : Int) + l = total
  l0 : 0 ≤ l
  ne : p ≠ [] → t ≠ []
theorem TabI.add {total most l : Int} {k : Nat} {p r : List Str} {x : Str} {t : Tb} (h : TabI total most l p t) (e : nm6.take k = p ++ x :: r) {ws : List Wr} (g : RowG most ws) (h1 : 1 ≤ ws.length) (h3 : ws.length ≤ 3) (hl : (ws.length : Int) ≤ l) : TabI total most (l - ws.length) (p ++ [x]) (t ++ [(x, ws)]) := by
  refine ⟨?_, fun q hq => ?_, ?_, by omega, fun _ => by simp⟩
  · rw [List.map_append]; exact (sub_take e h.sub).2
  · rcases List.mem_append.mp hq with hq | hq
    · exact h.row q hq
    · rw [List.mem_singleton.mp hq]; exact ⟨g, h1, h3⟩
  · rw [List.map_append, List.sum_append]
    have := h.tot
    simp only [List.map_cons, List.map_nil, List.sum_cons, List.sum_nil]
    omega
theorem TabI.skip {total most l : Int} {p : List Str} {x : Str} {t : Tb} (h : TabI total most l p t) (t0 : 1 ≤ total) (hl : l = 0) : TabI total most l (p ++ [x]) t := by
  refine ⟨h.sub.trans (List.sublist_append_left _ _), h.row, h.tot, h.l0, fun _ e => ?_⟩
  have := h.tot
  rw [e] at this
  simp only [List.map_nil, List.sum_nil] at this
  omega
section
variable {P : Program} {w : World} {K : PySem.W.Frag} {mg : Str → Option Value} {base : Heap}
theorem D_table (E : Env P w K mg base) : Def P w K mg base "_law_table" 5 ["_law_h", "_law_works", "_law_total", "_law_most"] [] sTable := mk_f_Ltable E fun fd F => by
  refine fn_d F sc_f_Ltable (fun I ds P R h => by obtain ⟨a, b, c, works, total, most, rfl, _⟩ := h; rfl) fun cdv A outer s H EE hr tk po I ds Q R h => ?_
  obtain ⟨a, b, c, works, total, most, rfl, rfl, w0, w1, t0, t1, m0, m1, q⟩ := h
  have nd := sc_f_Ltable.nd
  have hu := hr.units
  have hu1 := hr.u1
  have hr1 : Room 1 _ := hr.mono (by decide)
  have hr4 : Room 4 _ := hr
  refine s_cons (s_set 4 (ev_dnew fun x _ => ?_))
  refine s_cons (s_setP 5 (pv_v 2) ?_)
  refine s_cons (s_forE po (ei_lst (ev_slL ((pv_lst (va_cons pv_str (va_cons pv_str (va_cons pv_str (va_cons pv_str (va_cons pv_str (va_cons pv_str va_nil))))))).ev ⟨_, rfl, eo_none (eo_some (ev_op op_add (pv_int.ev (ev_nextP tk (D_next E) hr1 (.l c (iDic K x [])) (pv_v 0) (pv_v 1) rfl (by omega) fun j j0 j1 => ?_))))⟩))))
  refine p2_add _ ?_
  obtain ⟨k, rfl⟩ : ∃ k : Nat, j = k := ⟨j.toNat, by omega⟩
  have ek : (1 + (k : Int)) = ((1 + k : Nat) : Int) := by omega
  refine ⟨1 + (k : Int), rfl, _, .inl rfl, Str, nm6.take (1 + k), D.str, fun p δ' I' => ∃ (t : Tb) (l : Int) (o6 o7 : Option D), TabI total (mx most) l p t ∧ I' = (c.fill (iDr K a b)).and (iDic K x (t.map fun y => (.inr y.1, .lst (y.2.map wr4)))) ∧ δ' = [some (.adr a), some (.int works), some (.int total), some (.int most), some (.adr x), some (.int l), o6, o7], ?_, ⟨[], total, none, none, ⟨List.nil_sublist _, (fun p hp => nomatch hp), by simp, by omega, fun h => absurd rfl h⟩, rfl, rfl⟩, ?_, ?_⟩
  · rw [ek, cut_take]; exact (List.map_take (f := D.str) (l := nm6) (i := 1 + k)).symm
  · rintro p n r δ' I' e ⟨t, l, o6, o7, g, rfl, rfl⟩
    refine ⟨_, [6], bind_name 6, ?_⟩
    refine s_one (s_ifP (DL.pt_cmp op_gt (pv_v 5) pv_int p2_gt) (fun hl => ?_) fun hl => s_nil ?_)
    · have hl : 0 < l := of_decide_eq_true hl
      refine s_cons (s_set 7 (ev_op op_add (pv_int.ev (ev_nextP tk (D_next E) hr1 (.l c (iDic K x (t.map fun y => (.inr y.1, .lst (y.2.map wr4))))) (pv_v 0) (pv_cb (call_min2 rfl) E.b_min (va_cons pv_int (va_cons (pv_v 5) va_nil)) pn_min2) rfl (by split <;> omega) fun i i0 i1 => p2_add _ ?_))))
      have h3 : 1 + i ≤ 3 ∧ 1 + i ≤ l := by split at i1 <;> omega
      refine s_cons (s_dput (y := .str n) (k := .inr n) (p := x) (kds := t.map fun y => (.inr y.1, .lst (y.2.map wr4))) hu1 (.r (c.fill (iDr K a b)) .here) (ev_freezeL (ev_def tk (D_rowof E) hr4 (ea_cons ((pv_v 0).ev (ea_cons ((pv_v 7).ev (ea_cons ((pv_v 3).ev (ea_nil ⟨a, b, .l c (iDic K x (t.map fun y => (.inr y.1, .lst (y.2.map wr4)))), 1 + i, most, rfl, rfl, by omega, by omega, m0, m1, fun ws gr hn y => ⟨y, _, _, rfl, rfl, ?_⟩⟩))))))))))
      have hfr := (sub_take e g.sub).1
      refine ⟨rfl, pv_v 4, pv_v 6, rfl, ?_, ?_⟩
      · have := g.sub.length_le
        have h2 : (nm6.take (1 + k)).length ≤ 6 := by rw [List.length_take]; exact Nat.min_le_right _ _
        rw [e, List.length_append] at h2
        rw [List.length_map] at this ⊢
        omega
      · refine s_one (s_setP 5 (pv_op op_sub (pv_v 5) (pv_v 7) p2_sub) ?_)
        refine ⟨t ++ [(n, ws)], l - (1 + i), _, _, ?_, ?_, rfl⟩
        · rw [← hn]
          exact g.add e gr (by omega) (by omega) (by omega)
        · rw [put_newT (k := fun y : Str × List Wr => y.1) (v := fun y => D.lst (y.2.map wr4)) hfr, List.map_append]; rfl
    · have hl : ¬ 0 < l := of_decide_eq_false hl
      exact ⟨t, l, _, _, g.skip t0 (by have := g.l0; omega), rfl, rfl⟩
  · rintro δ' I' ⟨t, l, o6, o7, g, rfl, rfl⟩
    refine s_one (s_retP (pv_v 4) (q t ⟨g.sub.trans (List.take_sublist _ _), ?_, ?_, g.row, ?_⟩ x))
    · have := g.ne (by simp)
      exact List.length_pos_iff.mpr this
    · have h1 := g.sub.length_le
      rw [List.length_map, List.length_take] at h1
      omega
    · have := g.tot
      have := g.l0
      omega
end
end LK
set_option Elab.async false
set_option linter.all false
set_option maxRecDepth 100000
set_option maxHeartbeats 1000000
namespace LK
open PySem PySem.Spec PyProof.Rows L2 DL
theorem t_get {t : Tb} {p : Str × List Wr} (nd : (t.map (·.1)).Nodup) (hp : p ∈ t) : getG (t.map fun x => ((.inr x.1 : Key), D.lst (x.2.map wr4))) (.inr p.1) = some (.lst (p.2.map wr4)) := get_dicT (k := fun x : Str × List Wr => x.1) (v := fun x => D.lst (x.2.map wr4)) nd hp
theorem nd_at {t p r : Tb} {x : Str × List Wr} (nd : (t.map (·.1)).Nodup) (e : t = p ++ x :: r) : x.1 ∉ p.map (·.1) := by
  rw [e, List.map_append] at nd
  intro hx
  exact (List.nodup_append.mp nd).2.2 _ hx _ (by simp) rfl
section
variable {P : Program} {w : World} {K : PySem.W.Frag} {mg : Str → Option Value} {base : Heap}
theorem D_built (E : Env P w K mg base) : Def P w K mg base "_law_built" 6 ["_law_t"] [] sBuilt := mk_f_Lbuilt E fun fd F => by
  refine fn_d F sc_f_Lbuilt (fun I ds P R h => by obtain ⟨t, rfl, _⟩ := h; rfl) fun cdv A outer s H EE hr tk po I ds Q R h => ?_
  obtain ⟨t, rfl, o, q⟩ := h
  have nd := sc_f_Lbuilt.nd
  have hu1 := hr.u1
  have hr4 : Room 4 _ := hr.mono (by decide)
  have hr5 : Room 5 _ := hr
  refine s_cons (s_set 1 (ev_dnew fun x _ => ?_))
  refine s_cons (s_forT (xs := t) (g := fun p => D.str p.1) po (vi_dicT (pv_v (d := tD t) 0)) (fun p δ' I' => I' = I.and (iDic K x (p.map fun y => (.inr y.1, .lst (y.2.map (wrD K))))) ∧ ∃ o2 o3, δ' = [some (tD t), some (.adr x), o2, o3]) ⟨rfl, none, none, rfl⟩ ?_ ?_)
  · rintro p y r δ' I' e ⟨rfl, o2, o3, rfl⟩
    have hy : y ∈ t := by rw [e]; simp
    have hrow := o.row y hy
    have hlen := hrow.m
    refine ⟨_, [2], bind_name 2, ?_⟩
    refine s_one (s_dput (y := .str y.1) (k := .inr y.1) (p := x) (kds := p.map fun y => (.inr y.1, .lst (y.2.map (wrD K)))) hu1 (.r I .here) (PV.ev (pv_lcTM (xs := y.2) (g := wr4) (wrD K) [("_law_one_here", 3)] (fun z => [some (tD t), some (.adr x), some (.str y.1), some (wr4 z)]) (vi_lst (pv_dget hu1 (.inl rfl) (pv_v (d := tD t) 0) (pv_v 2) rfl (t_get o.nd hy))) (by omega) (fun z s H C cl fp => bind_name 3) fun z hz J s H C cl fp => ?_) ?_))
    · have gz := hrow.g z hz
      exact pv_write E hr4 (pv_ix ix_tup (pv_w (d := wr4 z) 3 rfl) pv_int (p2_ixT rfl)) (pv_ix ix_tup (pv_w (d := wr4 z) 3 rfl) pv_int (p2_ixT rfl)) (pv_ix ix_tup (pv_w (d := wr4 z) 3 rfl) pv_int (p2_ixT rfl)) (pv_ix ix_tup (pv_w (d := wr4 z) 3 rfl) pv_int (p2_ixT rfl)) gz.g gz.h
    · refine ⟨rfl, pv_v 1, pv_v 2, rfl, ?_, ?_, _, _, rfl⟩
      · have := o.m
        rw [e, List.length_append, List.length_cons] at this
        rw [List.length_map]; omega
      · rw [put_newT (k := fun y : Str × List Wr => y.1) (v := fun y => D.lst (y.2.map (wrD K))) (nd_at o.nd e), List.map_append]; rfl
  · rintro δ' I' ⟨rfl, o2, o3, rfl⟩
    exact sx_freezeD (j := 1) rfl (s_one (s_retP (pv_castL E hr5 o (pv_v (d := dicT t (·.1) fun p => .lst (p.2.map (wrD K))) 1)) q))
theorem D_gapsof (E : Env P w K mg base) : Def P w K mg base "_law_gapsof" 1 ["_law_t"] [] (sGapsof gapsT) := mk_f_Lgapsof E fun fd F => by
  refine fn_d F sc_f_Lgapsof (fun I ds P R h => by obtain ⟨t, rfl, _⟩ := h; rfl) fun cdv A outer s H EE hr tk po I ds Q R h => ?_
  obtain ⟨t, rfl, o, q⟩ := h
  have nd := sc_f_Lgapsof.nd
  have hu := hr.units
  have hu1 := hr.u1
  have o' := o.sort
  have hnm : (sortS (t.map (·.1))).map D.str = (sortW t).map fun p => D.str p.1 := by rw [← sortW_names, List.map_map]; rfl
  have hsub : ∀ p ∈ sortW t, p ∈ t := fun p hp => (sortW_perm t).mem_iff.mp hp
  have hl6 := o.m
  generalize sortW t = sw at *
  refine s_cons (s_setP 1 (pv_lst va_nil) ?_)
  refine s_cons (s_forT (xs := sw) (g := fun p => D.str p.1) po (by rw [← hnm]; exact vi_lst (pv_sortedS E.b_sorted (pv_listD E.b_list (pv_v (d := tD t) 0)) (by rw [List.length_map]; omega))) (fun p δ' I' => I' = I ∧ ∃ o2 o3, δ' = [some (tD t), some (.lst ((gapsT p).map pairD)), o2, o3]) ⟨rfl, none, none, rfl⟩ ?_ ?_)
  · rintro p x r δ' I' e ⟨rfl, o2, o3, rfl⟩
    have hx : x ∈ sw := by rw [e]; simp
    have hl := (o'.row x hx).m
    have hg := t_get o.nd (hsub x hx)
    refine ⟨_, [2], bind_name 2, ?_⟩
    refine s_one (s_setP 1 (pv_op op_cat (pv_v 1) (pv_lcT (xs := List.range (x.2.length - 1)) (g := fun i : Nat => D.int i) (fun i => pairD (x.1, i)) (fun i => !decide (kAt x.2 i = "ask")) [("_law_k", 3)] (fun i => [some (tD t), some (.lst ((gapsT p).map pairD)), some (.str x.1), some (.int i)]) ?_ (by rw [List.length_range]; omega) (fun i s H C cl fp => bind_name 3) (fun i hi J s H C cl fp => ?_) fun i hi ht J s H C cl fp => ?_) (p2_catKK ?_)) ?_)
    · have e2 : (((x.2.map wr4).length : Int) - 1).toNat = x.2.length - 1 := by rw [List.length_map]; omega
      rw [← e2]
      exact vi_range1 E.b_range (pv_op op_sub (pv_len E.b_len (pv_dget hu1 (.inl rfl) (pv_v (d := tD t) 0) (pv_v 2) rfl hg) trivial) pv_int p2_sub) (by rw [List.length_map]; omega) (by omega)
    · have hi2 : i < x.2.length := by have := List.mem_range.mp hi; omega
      have e2 : kAt x.2 i = x.2[i].k := by unfold kAt; rw [List.getElem?_eq_getElem hi2]; rfl
      rw [e2]
      exact pt_ne hu (pv_ix ix_tup (pv_ix ix_list (pv_dget hu1 (.inl rfl) (pv_v (d := tD t) 0) (pv_v 2) rfl hg) (pv_v 3) (p2_ixL (atI_m (List.getElem?_eq_getElem hi2)))) pv_int (p2_ixT rfl)) pv_str trivial
    · exact pv_tup (va_cons (pv_v 2) (va_cons (pv_v 3) va_nil))
    · have h3 : (gapsT p).length ≤ 48 := sum_flat gapsR_len o' e
      have h2 := gapsR_len x
      have h4 : ((List.range (x.2.length - 1)).filter fun i => !decide (kAt x.2 i = "ask")).length ≤ x.2.length := by
        unfold gapsR at h2; rwa [List.length_map] at h2
      rw [List.length_map, List.length_map]
      omega
    · refine ⟨rfl, some (.str x.1), o3, ?_⟩
      have e3 : gapsT (p ++ [x]) = gapsT p ++ gapsR x := by unfold gapsT; rw [List.flatMap_append]; simp
      rw [e3, List.map_append]
      unfold gapsR
      rw [List.map_map]; rfl
  · rintro δ' I' ⟨rfl, o2, o3, rfl⟩
    exact s_one (s_retP (pv_v 1) q)
end
end LK
set_option Elab.async false
set_option linter.all false
set_option maxRecDepth 100000
set_option maxHeartbeats 1000000
namespace LK
open PySem PySem.Spec PyProof.Rows L2 DL
/-! ### some of the things, drawn -/
def sSome {K : PySem.W.Frag} : Spec K := fun I ds P _ => ∃ (a b : Addr) (c : Rc K) (xs : List D), ds = [.adr a, .lst xs] ∧ I = c.fill (iDr K a b) ∧ xs.length ≤ 1000 ∧ ∀ ys, ys.Sublist xs → P (.lst ys) I
theorem sub_take' {α : Type} {xs ys : List α} {i : Nat} {x : α} (h : xs[i]? = some x) (s : ys.Sublist (xs.take i)) : (ys ++ [x]).Sublist (xs.take (i + 1)) ∧ ys.Sublist (xs.take (i + 1)) := by
  rw [take_snoc h]
  exact ⟨s.append (List.Sublist.refl _), s.trans (List.sublist_append_left _ _)⟩
section
variable {P : Program} {w : World} {K : PySem.W.Frag} {mg : Str → Option Value} {base : Heap}
theorem D_some (E : Env P w K mg base) : Def P w K mg base "_law_some" 2 ["_law_h", "_law_things"] [] sSome := mk_f_Lsome E fun fd F => by
  refine fn_d F sc_f_Lsome (fun I ds P R h => by obtain ⟨a, b, c, xs, rfl, _⟩ := h; rfl) fun cdv A outer s H EE hr tk po I ds Q R h => ?_
  obtain ⟨a, b, c, xs, rfl, rfl, hz, q⟩ := h
  have nd := sc_f_Lsome.nd
  have hr1 : Room 1 _ := hr
  refine s_cons (s_set 2 (ev_nextP tk (D_next E) hr1 c (pv_v 0) pv_int rfl (by decide) fun k k0 k1 => ?_))
  refine s_cons (s_ifP (DL.pt_cmp op_lt (pv_v 2) pv_int p2_lt) (fun hk => ?_) fun hk => s_nil ?_)
  · have hk : k < 2 := of_decide_eq_true hk
    refine s_one (s_ret (ev_ix ix_list ((pv_lst (va_cons (pv_lst va_nil) (va_cons (pv_list E.b_list (pv_v (d := .lst xs) 1) (.inl rfl)) va_nil))).ev (ev_op op_mul ((pv_v 2).ev (ev_ct call_int1 E.b_int (ea_cons (ev_cmp op_eq (ev_nextP tk (D_next E) hr1 c (pv_v 0) pv_int rfl (by decide) fun j j0 j1 => pv_int.ev (eqV_int j 0 _ (ea_nil (pn_intB _ (p2_mul (.inr ?_) _ ?_)))))))))))))
    · split <;> decide
    · refine o2_ixL ?_ ?_ ?_
      · split <;> omega
      · show _ < ((2 : Nat) : Int)
        split <;> omega
      · intro d hd
        rcases List.mem_cons.mp hd with rfl | hd
        · exact q [] (List.nil_sublist _)
        · rw [List.mem_singleton.mp hd]; exact q xs (List.Sublist.refl _)
  · refine s_one (s_ret (ev_lcG [("_law_thing", 3)] nd (blkOk_by (by rfl)) ((vi_lst (pv_v (d := .lst xs) 1)) _ _ _ ⟨by omega, fun i ys => ys.Sublist (xs.take i), List.nil_sublist _, fun i d ys hd hs => ⟨fun _ => True, [some (.adr a), some (.lst xs), some (.int k), some d], fun J s H C cl fp => ⟨bind_name 3, ets_one (et_nextEq takesF (D_next E) hr1 (.l c J) (pv_v 0) pv_int pv_int rfl (by decide) fun b => ⟨rfl, trivial⟩)⟩, fun _ J s H C cl fp => (pv_w (d := d) 3 rfl).ev ⟨rfl, (sub_take' hd hs).1⟩, fun _ => (sub_take' hd hs).2⟩, fun ys hs => ?_⟩)))
    have hs : ys.Sublist (xs.take xs.length) := hs
    rw [List.take_length] at hs
    exact q ys hs
end
end LK
set_option Elab.async false
set_option linter.all false
set_option maxRecDepth 100000
set_option maxHeartbeats 1000000
namespace LK
open PySem PySem.Spec PyProof.Rows L2 DL
/-! ### beginnings of orders that respect holds, drawn -/
theorem bd_pref {t : Tb} (o : TbOk t) {hs : List (Str × Nat)} (hg : ∀ g ∈ hs, g ∈ gapsT t) : ∀ (k : Nat) (ns : List Str), ns ∈ prefO t hs k → BdOk t (stO t hs ns).1 (stO t hs ns).2
  | 0, ns, h => by
    have e : ns = [] := by simpa [prefO] using h
    subst e
    exact .inl rfl
  | k + 1, ns, h => by
    obtain ⟨p, hp, hn⟩ := List.mem_flatMap.mp h
    obtain ⟨m, hm, rfl⟩ := List.mem_map.mp hn
    rw [stO_snoc]
    exact bd_after o hg (prefO_ok o k p hp).1 hm
theorem pref_snoc {t : Tb} {hs : List (Str × Nat)} {k : Nat} {ns : List Str} {m : Str} (h : ns ∈ prefO t hs k) (hm : m ∈ readyS t (stO t hs ns).1 (stO t hs ns).2) : ns ++ [m] ∈ prefO t hs (k + 1) := List.mem_flatMap.mpr ⟨ns, h, List.mem_map.mpr ⟨m, hm, rfl⟩⟩
theorem atLastO {ns : List Str} (h : ns ≠ []) : atI (ns.map D.str) (-1) = some (.str (lastO ns)) := by
  refine atI_last ?_
  rw [List.getLast?_map, List.getLast?_eq_some_getLast h]
  unfold lastO
  rw [List.getLast?_eq_some_getLast h]; rfl
def sBegG {K : PySem.W.Frag} : Spec K := fun I ds P _ => ∃ (a b : Addr) (c : Rc K) (t : Tb) (l : List (Str × Nat)), ds = [.adr a, tD t, .lst (l.map pairD)] ∧ I = c.fill (iDr K a b) ∧ TbOk t ∧ (∀ g ∈ l, g ∈ gapsT (sortW t)) ∧ l.length ≤ 1000 ∧ ∀ ns, ns ∈ prefO (sortW t) l ns.length → P (ordD ns) I
section
variable {P : Program} {w : World} {K : PySem.W.Frag} {mg : Str → Option Value} {base : Heap}
theorem D_begG (E : Env P w K mg base) : Def P w K mg base "_law_beginning" 2 ["_law_h", "_law_t", "_law_held"] [] sBegG := mk_f_Lbeginning E fun fd F => by
  refine fn_d F sc_f_Lbeginning (fun I ds P R h => by obtain ⟨a, b, c, t, l, rfl, _⟩ := h; rfl) fun cdv A outer s H EE hr tk po I ds Q R h => ?_
  obtain ⟨a, b, c, t, l, rfl, rfl, o, hgl, hll, q⟩ := h
  have nd := sc_f_Lbeginning.nd
  have hu := hr.units
  have hu1 := hr.u1
  have hu65 := hr.u65
  have hr1 : Room 1 _ := hr
  have ht := o.tot
  have hm6 := o.m
  have os : TbOk (sortW t) := o.sort
  have hnm : (sortS (t.map (·.1))).map D.str = (sortW t).map fun p => D.str p.1 := by rw [← sortW_names, List.map_map]; rfl
  have hsub : ∀ p, p ∈ sortW t ↔ p ∈ t := fun p => (sortW_perm t).mem_iff
  have hsl : (sortW t).length ≤ 6 := by rw [(sortW_perm t).length_eq]; exact hm6
  have hts : total (sortW t) = total t := total_sort
  have hlk : ∀ g ∈ l, PyData.strOk g.1 = true := fun g hg => os.gapOk g (hgl g hg)
  generalize sortW t = sw at *
  have hrow : ∀ p ∈ t, getG (t.map fun x => ((.inr x.1 : Key), D.lst (x.2.map wr4))) (.inr p.1) = some (.lst (p.2.map wr4)) := fun p hp => t_get o.nd hp
  refine s_cons (s_set 3 (ev_lstM' va_nil (by decide) fun f => ?_))
  refine s_cons (s_setP (d := .int (total t)) 4 (PV.is (pv_cb (cr_sum rfl) E.b_sum (va_cons (PV.is (pv_lcTM (xs := t) (g := fun p => D.str p.1) (fun p => .int p.2.length) [("_law_name", 7)] (fun p => [some (.adr a), some (tD t), some (.lst (l.map pairD)), some (.adr f), none, none, none, some (.str p.1)]) (vi_dicT (pv_v (d := tD t) 1)) (by omega) (fun p s H C cl fp => bind_name 7) fun p hp J s H C cl fp => PV.is (pv_len E.b_len (pv_dget hu1 (.inl rfl) (pv_v (d := tD t) 1) (pv_v 7) rfl (hrow p hp)) trivial) (by rw [List.length_map])) (z := .lst ((t.map fun p => (p.2.length : Int)).map D.int)) (by rw [List.map_map]; rfl)) va_nil) pn_sum) ?_) ?_)
  · have := sum_nat (t.map fun p => p.2.length)
    rw [List.map_map] at this
    unfold total
    rw [← this]; rfl
  refine s_cons (s_joint (fun δ' I' => I' = (c.fill (iDr K a b)).and (iLst K f []) ∧ ∃ m : Int, 0 ≤ m ∧ m ≤ total t ∧ δ' = [some (.adr a), some (tD t), some (.lst (l.map pairD)), some (.adr f), some (.int m), none, none, none]) (s_if (et_cmp op_eq (ev_nextP tk (D_next E) hr1 (.l c (iLst K f [])) (pv_v 0) pv_int rfl (by decide) fun k k0 k1 => pv_int.ev (p2_eq (b := decide (k = 0)) rfl rfl rfl (by simp) _ ⟨_, rfl, ?_⟩)))) ?_)
  · by_cases hk : k = 0
    · rw [if_pos (decide_eq_true hk)]
      refine s_one (s_set 4 (ev_nextP tk (D_next E) hr1 (.l c (iLst K f [])) (pv_v 0) (pv_op op_add (pv_v 4) pv_int p2_add) rfl (by omega) fun m m0 m1 => ?_))
      exact ⟨rfl, m, m0, by omega, rfl⟩
    · rw [if_neg (by simpa using hk)]
      exact s_nil ⟨rfl, total t, by omega, by omega, rfl⟩
  rintro δ' I' ⟨rfl, m, m0, m1, rfl⟩
  refine s_cons (s_whileP po (fun i δ' I' => ∃ (ns : List Str) (o5 o6 o7 : Option D), ns ∈ prefO sw l ns.length ∧ (ns.length : Int) ≤ m ∧ i = (m - ns.length).toNat ∧ I' = (c.fill (iDr K a b)).and (iLst K f (ns.map D.str)) ∧ δ' = [some (.adr a), some (tD t), some (.lst (l.map pairD)), some (.adr f), some (.int m), o5, o6, o7]) m.toNat ⟨[], none, none, none, List.mem_singleton.mpr rfl, by simpa using m0, by simp, rfl, rfl⟩ ?_)
  rintro i δ' I' ⟨ns, o5, o6, o7, hw, hl, rfl, rfl, rfl⟩
  refine ⟨_, DL.pt_cmp op_lt (pv_cb call_len_seq E.b_len (va_cons (pv_v 3) va_nil) (pn_lenM (.r _ .here))) (pv_v 4) p2_lt, fun hlt => ?_, fun hlt => ?_⟩
  · have hlt : (ns.length : Int) < m := by rw [List.length_map] at hlt; exact of_decide_eq_true hlt
    have hnms := prefO_nm os _ ns hw
    have hoks : ∀ n ∈ ns, PyData.strOk n = true := fun n hn => isName_ok (os.nm_ok (hnms n hn))
    have hok1 : okEq (.lst (ns.map D.str)) = true := okS_map hoks
    have hokl : PyData.strOk (lastO ns) = true := by
      unfold lastO
      cases e : ns.getLast? with
      | none => decide +kernel
      | some z => exact hoks z (List.mem_of_getLast? e)
    refine s_cons (s_setP (d := .str (lastO ns)) 5 (pv_if (PVT.is (c := decide (ns ≠ [])) (pt_neM (.r (c.fill (iDr K a b)) .here) hu (pv_v 3) (pv_lst va_nil) hok1 (by decide +kernel)) ?_) (fun e => ?_) fun e => ?_) ?_)
    · cases ns with
      | nil => rfl
      | cons n ns => rfl
    · exact pv_ix ix_list (pv_v 3) (pv_neg pv_int) (p2_ixM (.r (c.fill (iDr K a b)) .here) (atLastO (of_decide_eq_true e)))
    · have e2 : ns = [] := by simpa using e
      rw [e2]; exact pv_str
    refine s_cons (s_setLc 6 [("_law_name", 7)] (lcT (xs := sw) (g := fun p => D.str p.1) (fun p => .str p.1) (fun p => decide (ns.count p.1 < p.2.length)) [("_law_name", 7)] (fun p => [some (.adr a), some (tD t), some (.lst (l.map pairD)), some (.adr f), some (.int m), some (.str (lastO ns)), o6, some (.str p.1)]) ?_ (by omega) (fun p s H C cl fp => bind_name 7) (fun p hp J s H C cl fp => ?_) (fun p hp ht J s H C cl fp => pv_v 7) ?_))
    · rw [← hnm]
      exact vi_lst (pv_sortedS E.b_sorted (pv_listD E.b_list (pv_v (d := tD t) 1)) (by rw [List.length_map]; omega))
    · refine PVT.is (DL.pt_cmp op_lt (pv_lcount (.l (.r (c.fill (iDr K a b)) .here) J) (pv_v 3) (pv_v 7)) (pv_len E.b_len (pv_dget hu1 (.inl rfl) (pv_v (d := tD t) 1) (pv_v 7) rfl (hrow p ((hsub p).mp hp))) trivial) p2_lt) ?_
      rw [List.length_map]
      simp
    obtain ⟨vs, hsum, _⟩ := prefO_ok os _ ns hw
    have hrd := ready_cnt os (hs := l) hnms
    obtain ⟨p0, hp0⟩ := ready_ex os vs (bd_pref os hgl _ ns hw) (by rw [hsum]; omega)
    have hfl : (sw.filter fun p => decide (ns.count p.1 < p.2.length)).map (fun p => D.str p.1) = ((nmT sw).filter fun n => decide (ns.count n < ((rowOf sw n).getD []).length)).map D.str := by
      unfold nmT
      rw [List.filter_map, List.map_map]
      refine congrArg (List.map _) (List.filter_congr fun p hp => ?_)
      show _ = decide (ns.count p.1 < ((rowOf sw p.1).getD []).length)
      rw [rowOf_some os.nd hp]; rfl
    rw [hfl]
    have hab2 : ((nmT sw).filter fun n => decide (ns.count n < ((rowOf sw n).getD []).length)).length ≤ 6 := Nat.le_trans (List.length_filter_le _ _) (by unfold nmT; rw [List.length_map]; exact hsl)
    refine s_cons (s_joint (fun δ' I' => I' = (c.fill (iDr K a b)).and (iLst K f (ns.map D.str)) ∧ δ' = [some (.adr a), some (tD t), some (.lst (l.map pairD)), some (.adr f), some (.int m), some (.str (lastO ns)), some (.lst (((nmT sw).filter (nextO sw l ns)).map D.str)), o7]) (s_ifP (PVT.is (c := bndB l ns) (ptw (ww_and (pt_ne hu (pv_v 5) pv_str trivial) fun hne => ww_and1 (PVT.is (c := decide ((lastO ns, ns.count (lastO ns) - 1) ∈ l)) (pt_in hu65 (pv_tup (va_cons (pv_w 5 rfl) (va_cons (pv_op op_sub (pv_lcount (.r (c.fill (iDr K a b)) .here) (pv_v 3) (pv_v 5)) pv_int p2_sub) va_nil))) (pv_w (d := .lst (l.map pairD)) 2 rfl) ?_) ?_))) ?_) (fun hb => ?_) fun hb => s_nil ?_) ?_)
    · exact ⟨(OkD.t2 (n := 0) (.str hokl) .int).mono (by decide), OkD.map fun g hg => (okD_pair (hlk g hg)).mono (by decide)⟩
    · have hne : lastO ns ≠ "" := fun e => by rw [e] at hne; exact absurd hne (by decide)
      have h1 : 0 < ns.count (lastO ns) := by
        unfold lastO at hne ⊢
        cases e : ns.getLast? with
        | none => rw [e] at hne; exact absurd rfl hne
        | some z => exact List.count_pos_iff.mpr (List.mem_of_getLast? e)
      have e1 : ((ns.count (lastO ns) : Nat) : Int) - 1 = ((ns.count (lastO ns) - 1 : Nat) : Int) := by omega
      rw [e1]
      exact (inj_pair.any (lastO ns, ns.count (lastO ns) - 1) l).trans (by congr)
    · unfold bndB
      congr 1
    · have e3 : (nmT sw).filter (nextO sw l ns) = [lastO ns] := by
        have hx : ∀ n, n ∈ (nmT sw).filter (nextO sw l ns) → n = lastO ns := fun n hn => by
          have h2 := (List.mem_filter.mp hn).2
          rw [next_eq, hb] at h2
          exact of_decide_eq_true (by simpa using (Bool.and_eq_true_iff.mp h2).2)
        have hmem : lastO ns ∈ (nmT sw).filter (nextO sw l ns) := by
          have := hp0
          rw [hrd] at this
          rw [← hx p0 this]; exact this
        have hnd : ((nmT sw).filter (nextO sw l ns)).Nodup := os.nd.filter _
        cases e : (nmT sw).filter (nextO sw l ns) with
        | nil => rw [e] at hmem; cases hmem
        | cons x r =>
          rw [e] at hx hnd
          have hr0 : r = [] := by
            cases r with
            | nil => rfl
            | cons y r =>
              have h1 := hx x (by simp)
              have h2 := hx y (by simp)
              rw [h1, h2] at hnd
              simp at hnd
          rw [hr0, hx x (by simp)]
      rw [e3]
      refine s_one (s_setP (d := .lst [.str (lastO ns)]) 6 (pv_lst (va_cons (pv_v 5) va_nil)) ?_)
      exact ⟨rfl, rfl⟩
    · have e3 : (nmT sw).filter (nextO sw l ns) = (nmT sw).filter fun n => decide (ns.count n < ((rowOf sw n).getD []).length) := by
        refine List.filter_congr fun n hn => ?_
        rw [next_eq, hb]; simp
      rw [e3]
      exact ⟨rfl, rfl⟩
    rintro δ' I' ⟨rfl, rfl⟩
    rw [← hrd]
    have hab : 0 < (readyS sw (stO sw l ns).1 (stO sw l ns).2).length := List.length_pos_of_mem hp0
    have hab3 : (readyS sw (stO sw l ns).1 (stO sw l ns).2).length ≤ 6 := Nat.le_trans ready_len hsl
    refine s_one (s_append (.r (c.fill (iDr K a b)) .here) (pv_v 3) rfl (ev_pick tk (D_next E) hr1 (.l c (iLst K f (ns.map D.str))) (pv_v 6) (pv_v 0) (PV.ev (pv_len E.b_len (pv_v (d := .lst ((readyS sw (stO sw l ns).1 (stO sw l ns).2).map D.str)) 6) trivial) ⟨_, rfl, rfl, ?_, ?_, ?_⟩) rfl fun d hd => ⟨rfl, ?_, ?_⟩))
    · rw [List.length_map]; omega
    · rw [List.length_map]; omega
    · exact Int.le_refl _
    · rw [List.length_map]; omega
    · obtain ⟨n, hn, rfl⟩ := List.mem_map.mp hd
      refine ⟨(m - (ns ++ [n]).length).toNat, ?_, ns ++ [n], _, _, _, ?_, ?_, rfl, ?_, rfl⟩
      · rw [List.length_append]; simp only [List.length_cons, List.length_nil]; omega
      · rw [List.length_append]; exact pref_snoc hw hn
      · rw [List.length_append]; simp only [List.length_cons, List.length_nil]; omega
      · rw [List.map_append]; rfl
  · exact s_one (s_ret (ev_tupleMB (c.fill (iDr K a b)) E.b_tuple (pv_v 3) rfl (q ns hw)))
end
end LK
set_option Elab.async false
set_option linter.all false
set_option maxRecDepth 100000
set_option maxHeartbeats 4000000
namespace DL
open PySem PySem.Spec PyProof.Rows L2
section
variable {X : Cx} {o i f : Expr} {δ : DEnv} {I : Iv X.K} {apos pos : Pos} {y z dflt d : D} {k : Key} {kds : List (Key × D)}
/-- o.get(i, f) -/
theorem pv_dget2 (hu : X.A.units + 1 < cLine) (dI : DicI X I z kds) (ho : PV X I o δ z) (hi : PV X I i δ y) (hf : PV X I f δ dflt) (hk : keyD y = some k) (hd : (getG kds k).getD dflt = d) (hb : attributeBase o "get" X.env (eval o X.env) = eval o X.env := by rfl)
    (hfew : ((backTo pos (starEach [i, f] X.env)).all (fun x => !x.1) && (backToKw pos (keywordEach [] X.env)).all (fun x => x.1.isSome) && decide (([i, f] : List Expr).length + ([] : List Keyword).length + (if ([] : List Keyword).isEmpty then 0 else 1) < 30)) = true := by rfl)
    (hline : (apos.endLine == pos.line) = true := by rfl) (htr : backTo pos (starEach [i, f] X.env) = [(false, eval i X.env), (false, eval f X.env)] := by rfl) : PV X I (.Call (.Attribute o "get" apos) [i, f] [] pos) δ d := fun W R P pp σ G H Q hE s hI qx q =>
  PE.wp (pe_dget2 hu peC peC peC ⟨hb, hfew, hline, htr⟩) (ho W R (fun z1 I1 => z1 = z ∧ I1 = I) ⟨rfl, rfl⟩ σ G H _ hE s hI qx fun v d1 G1 H1 I1 s1 t1 h1 r1 ⟨ed, ei⟩ => by
    subst ed ei
    obtain ⟨a, kvs, e1, rd, kr⟩ := dic_rd dI t1 h1 r1
    refine ⟨a, e1, .inl ⟨kvs, rd⟩, ?_⟩
    refine hi W R (fun z1 J => z1 = y ∧ J = I1) ⟨rfl, rfl⟩ σ G1 H1 _ (hE.mono s1) t1 h1 (qx.mono s1) fun v2 d2 G2 H2 I2 s2 t2 h2 r2 ⟨ed2, ei2⟩ => ?_
    subst ed2 ei2
    refine hf W R (fun z1 J => z1 = dflt ∧ J = I2) ⟨rfl, rfl⟩ σ G2 H2 _ (hE.mono (s1.trans s2)) t2 h2 (qx.mono (s1.trans s2)) fun v3 d3 G3 H3 I3 s3 t3 h3 r3 ⟨ed3, ei3⟩ => ?_
    subst ed3 ei3
    obtain ⟨a', kvs', e1', rd', kr'⟩ := dic_rd dI t3 h3 ((r1.mono s2).mono s3)
    have ea : a' = a := by rw [e1] at e1'; exact (V.ref.inj e1').symm
    subst ea
    have s13 := (s1.trans s2).trans s3
    cases hg : getG kds k with
    | some dd =>
      obtain ⟨u, e3, e4⟩ := (kr'.get (k := k)).1 dd hg
      rw [hg] at hd
      have hd : dd = d := hd
      subst hd
      exact ⟨some u, .inl ⟨kvs', k, rd', rep_key hk (r2.mono s3), e3.symm⟩, q u dd G3 H3 _ s13 t3 h3 e4 pp⟩
    | none =>
      have e3 := (kr'.get (k := k)).2 hg
      rw [hg] at hd
      have hd : d3 = d := hd
      subst hd
      exact ⟨none, .inl ⟨kvs', k, rd', rep_key hk (r2.mono s3), e3.symm⟩, q v3 d3 G3 H3 _ s13 t3 h3 r3 pp⟩)
end
end DL
set_option Elab.async false
set_option linter.all false
set_option maxRecDepth 100000
set_option maxHeartbeats 4000000
namespace DL
open PySem PySem.Spec PyProof.Rows L2
section
variable {X : Cx} {W : WX} {R : Rx X.K} {o e : Expr} {δ : DEnv} {I : Iv X.K} {apos pos ep : Pos} {q : Addr} {k : Str} {ss : List Str} {κ : Ko X.K} {ds : List D}
/-- o.count(e), a list of texts that changes no more -/
theorem pv_lcountK (ho : PV X I o δ (.lst (ss.map D.str))) (he : PV X I e δ (.str k))
    (hbase : attributeBase o "count" X.env (eval o X.env) = eval o X.env := by rfl)
    (hfew : ((backTo pos (starEach [e] X.env)).all (fun x => !x.1) && (backToKw pos (keywordEach [] X.env)).all (fun x => x.1.isSome) && decide ([e].length + ([] : List Keyword).length + (if ([] : List Keyword).isEmpty then 0 else 1) < 30)) = true := by rfl)
    (hline : (apos.endLine == pos.line) = true := by rfl) (hst : starEach [e] X.env = (false, eval e X.env) :: starEach [] X.env := by rfl) (hpl : (backTo pos (starEach [] X.env)).any (·.1) = false := by rfl) : PV X I (.Call (.Attribute o "count" apos) [e] [] pos) δ (.int (ss.count k : Nat)) := fun W R P pp σ G H Q hE s hI qx qq =>
  PE.wp (pe_bm PySem.F.plainAttrs_list PySem.F.slot_list_count PySem.F.type_list_count mt_lcountS peC (pa_cons peC pa_nil hst) hbase hfew hline hst hpl) (ho W R (fun z I1 => z = .lst (ss.map D.str) ∧ I1 = I) ⟨rfl, rfl⟩ σ G H _ hE s hI qx fun v d1 G1 H1 I1 s1 t1 h1 r1 ⟨ed, ei⟩ => by
    subst ed ei
    obtain ⟨a, vs, rfl, e2, e3⟩ := r1
    have e4 := repsStr e3
    subst e4
    refine ⟨.inl ⟨rfl, _, .inl (.inl (t1 _ _ e2))⟩, ?_⟩
    refine he W R (fun z J => z = .str k ∧ J = I1) ⟨rfl, rfl⟩ σ G1 H1 _ (hE.mono s1) t1 h1 (qx.mono s1) fun v2 d2 G2 H2 I2 s2 t2 h2 r2 ⟨ed2, ei2⟩ => ?_
    subst ed2 ei2
    exact ⟨a, ss, k, rfl, by rw [show v2 = .str k from r2], SqL.of (t2 _ _ (s2 _ _ e2)), qq _ (.int _) G2 H2 _ (s1.trans s2) t2 h2 rfl pp⟩)
/-- o.insert(i, e), both may draw -/
theorem s_insertE {i : Expr} (c : Rc X.K) (ho : PV X I o δ (.adr q)) (hI0 : I = c.fill (iLst X.K q ds)) (hz : ds.length < 1000000)
    (h : EvX X W (κ.r δ) i δ I fun z I1 => ∃ j : Nat, z = .int j ∧ j < 1000000 ∧ EvX X W (κ.r δ) e δ I1 fun d I2 => I2 = c.fill (iLst X.K q ds) ∧ κ.nx δ (c.fill (iLst X.K q (ds.take j ++ [d] ++ ds.drop j))))
    (hbase : attributeBase o "insert" X.env (eval o X.env) = eval o X.env := by rfl)
    (hfew : ((backTo pos (starEach [i, e] X.env)).all (fun x => !x.1) && (backToKw pos (keywordEach [] X.env)).all (fun x => x.1.isSome) && decide ([i, e].length + ([] : List Keyword).length + (if ([] : List Keyword).isEmpty then 0 else 1) < 30)) = true := by rfl)
    (hline : (apos.endLine == pos.line) = true := by rfl) (hst : starEach [i, e] X.env = (false, eval i X.env) :: starEach [e] X.env := by rfl) (hst2 : starEach [e] X.env = (false, eval e X.env) :: starEach [] X.env := by rfl) (hpl : (backTo pos (starEach [e] X.env)).any (·.1) = false := by rfl)
    (hs : swapsWith (.Call (.Attribute o "insert" apos) [i, e] [] pos) none ep.line X.env = pure false := by rfl) : S1 X W (.Expr (.Call (.Attribute o "insert" apos) [i, e] [] pos) ep) δ I κ := fun σ G H E hE s hI kk =>
  PS.wp (ps_expr (pe_bm PySem.F.plainAttrs_list PySem.F.slot_list_insert PySem.F.type_list_insert mt_insert peC (pa_cons peC (pa_cons peC pa_nil hst2) hst) hbase hfew hline hst hpl) hs) (ho W (κ.r δ) (fun z I1 => z = .adr q ∧ I1 = I) ⟨rfl, rfl⟩ σ G H _ hE s hI (kk.kx hE) fun v d1 G1 H1 I1 s1 t1 h1 r1 ⟨ed, ei⟩ => by
    subst ed ei hI0
    obtain ⟨vs, hp, rv, gp⟩ := h1.lst
    obtain rfl : v = .ref q := r1
    refine ⟨.inl ⟨rfl, _, .inl (.inl hp)⟩, ?_⟩
    refine h σ G1 H1 _ (hE.mono s1) t1 h1 ((kk.kx hE).mono s1) fun w d2 G2 H2 I2 s2 t2 h2 r2 ⟨j, ez, hj, he⟩ => ?_
    subst ez
    refine he σ G2 H2 _ (hE.mono (s1.trans s2)) t2 h2 ((kk.kx hE).mono (s1.trans s2)) fun u d3 G3 H3 I3 s3 t3 h3 r3 ⟨ei3, nx⟩ => ?_
    subst ei3
    obtain ⟨vs2, hp2, rv2, gp2⟩ := h3.lst
    refine ⟨q, vs2, j, u, rfl, by rw [show w = .int j from r2], hp2, by rw [rv2.length, sizeLine_eq]; omega, by omega, by omega, ?_⟩
    rw [show ((j : Int)).toNat = j by omega]
    exact kk.nx δ σ G3 _ _ ((s1.trans s2).trans s3) (same_upd t3 gp2) (h3.lstSet (((rv2.take j).append (Reps.one r3)).append (rv2.drop j))) (hE.mono ((s1.trans s2).trans s3)) nx)
end
end DL
set_option Elab.async false
set_option linter.all false
set_option maxRecDepth 100000
set_option maxHeartbeats 1000000
namespace LK
open PySem PySem.Spec PyProof.Rows L2 DL
/-! ### orders that are refused -/
def sONumX {K : PySem.W.Frag} : Spec K := fun I ds _ R => ∃ (t : Tb) (d1 : D) (pre : List (Str × Nat)) (x : D) (rest : List D), ds = [cD K t, d1, .lst (pre.map pairD ++ x :: rest)] ∧ TbOk t ∧ (∀ g ∈ pre, g ∈ gapsT t) ∧ Odd (gapsT t) x ∧ R (He.ga K "WrongGap") [("gap", x)] I
def sBrokenX {K : PySem.W.Frag} : Spec K := fun I ds _ R => ∃ (t : Tb) (ns : List Str) (i : Nat), ds = [cD K t, .lst (ns.map D.str)] ∧ TbOk t ∧ ns.length ≤ 1000 ∧ checkO t [] ns true = some i ∧ R (He.ga K "WrongOrder") [("index", .int i)] I
section
variable {P : Program} {w : World} {K : PySem.W.Frag} {mg : Str → Option Value} {base : Heap}
theorem DK_onumX (E : Env P w K mg base) : DefK P w K mg base "order_number" 25 ["cast", "order", "holds"] 2 ["holds"] [] sONumX := mkK_f_order_number E fun fd F => by
  refine fn_d F sc_f_order_number (fun I ds P R h => by obtain ⟨t, d1, pre, x, rest, rfl, _⟩ := h; rfl) fun cdv A outer s H EE hr tk po I ds Q R h => ?_
  obtain ⟨t, d1, pre, x, rest, rfl, o, hl, ox, q⟩ := h
  have nd := sc_f_order_number.nd
  have hr4 : Room 4 _ := hr.mono (by decide)
  exact s_cons (s_set 3 (ev_def tk (D_holdsX E) hr4 (ea_cons ((pv_v (d := cD K t) 0).ev (ea_cons ((pv_v (d := .lst (pre.map pairD ++ x :: rest)) 2).ev (ea_nil ⟨t, pre, x, rest, rfl, o, hl, ox, q⟩)))))))
theorem D_brokenX (E : Env P w K mg base) : Def P w K mg base "broken_gaps" 7 ["cast", "order"] [] sBrokenX := mk_f_broken_gaps E fun fd F => by
  refine fn_d F sc_f_broken_gaps (fun I ds P R h => by obtain ⟨t, ns, i, rfl, _⟩ := h; rfl) fun cdv A outer s H EE hr tk po I ds Q R h => ?_
  obtain ⟨t, ns, i, rfl, o, hns, hck, q⟩ := h
  have nd := sc_f_broken_gaps.nd
  have hr6 : Room 6 _ := hr
  refine s_cons (s_set 2 (ev_def tk (D_checked E) hr6 (ea_cons ((pv_v (d := cD K t) 0).ev (ea_cons ((pv_v (d := .lst (ns.map D.str)) 1).ev (ea_cons ((pv_tup va_nil).ev (ea_cons (pv_bl.ev (ea_nil ⟨t, [], ns, _, true, rfl, .inl rfl, o, (fun g hg => nomatch hg), hns, ?_⟩)))))))))))
  rw [hck]
  exact q
end
/-! ### the first wrong index, by the law -/
def wrongN (t : Tb) (l : List (Str × Nat)) (ns : List Str) (i : Nat) : Bool :=
  let n := ns.getD i ""
  let p := ns.take i
  decide (lenN0 t n < p.count n + 1) || (!(decide (lastO p = "") || decide (lastO p = n)) && decide ((lastO p, p.count (lastO p) - 1) ∈ l))
where lenN0 (t : Tb) (n : Str) : Nat := ((rowOf t n).getD []).length
def wrongD (t : Tb) (l : List (Str × Nat)) (ns : List Str) : D := match (List.range ns.length).find? (wrongN t l ns) with
  | some i => .int (i : Nat)
  | none => if ns.length < total t then .int (ns.length : Nat) else .non
def optI : Option Nat → D
  | some i => .int (i : Nat)
  | none => .non
theorem prefL_snoc {t : Tb} {l : List (Str × Nat)} {p : List Str} {m : Str} (h : p ∈ prefO t l p.length) (hm : m ∈ readyS t (stO t l p).1 (stO t l p).2) : p ++ [m] ∈ prefO t l (p ++ [m]).length := by
  rw [List.length_append]
  exact List.mem_flatMap.mpr ⟨p, h, List.mem_map.mpr ⟨m, hm, rfl⟩⟩
theorem rowOf_no {t : Tb} {n : Str} (h : n ∉ nmT t) : rowOf t n = none := rowOf_none.mpr h
theorem wrong_ready {t : Tb} (o : TbOk t) {l : List (Str × Nat)} {p r : List Str} {n : Str} (hp : p ∈ prefO t l p.length) : n ∈ readyS t (stO t l p).1 (stO t l p).2 ↔ wrongN t l (p ++ n :: r) p.length = false := by
  have hnn := prefO_nm o _ _ hp
  rw [ready_cnt o hnn, List.mem_filter, next_eq]
  have e1 : (p ++ n :: r).getD p.length "" = n := by rw [List.getD_eq_getElem?_getD, List.getElem?_append_right (Nat.le_refl _), Nat.sub_self]; rfl
  have e2 : (p ++ n :: r).take p.length = p := List.take_left' rfl
  unfold wrongN
  simp only [e1, e2]
  unfold wrongN.lenN0 bndB
  by_cases hm : n ∈ nmT t
  · generalize ((rowOf t n).getD []).length = L
    by_cases h1 : p.count n < L
    · rw [decide_eq_true h1, decide_eq_false (show ¬ L < p.count n + 1 by omega)]
      by_cases h2 : lastO p = ""
      · simp [hm, h2]
      · by_cases h3 : lastO p = n
        · simp [hm, h3]
        · by_cases h4 : (lastO p, p.count (lastO p) - 1) ∈ l
          · simp [hm, h2, h3, h4]
            exact fun z => h3 z.symm
          · simp [hm, h2, h3, h4]
    · rw [decide_eq_false h1, decide_eq_true (show L < p.count n + 1 by omega)]
      simp
  · rw [rowOf_no hm]
    simp [hm]
theorem wrong_walk {t : Tb} (o : TbOk t) {l : List (Str × Nat)} {ns : List Str} : ∀ (r p : List Str), p ++ r = ns → p ∈ prefO t l p.length → walkO t l p.length r (stO t l p) = match (List.range' p.length r.length).find? (wrongN t l ns) with
    | some i => .inr i
    | none => .inl (stO t l ns)
  | [], p, e, hp => by
    rw [List.append_nil] at e
    subst e
    rfl
  | n :: r, p, e, hp => by
    have hw := wrong_ready (r := r) (n := n) o hp
    rw [e] at hw
    rw [List.length_cons, List.range'_succ, List.find?_cons]
    show (if n ∈ readyS t (stO t l p).1 (stO t l p).2 then walkO t l (p.length + 1) r (afterC t (stO t l p).1 n, afterB t l (stO t l p).1 n) else .inr p.length) = _
    cases hb : wrongN t l ns p.length with
    | true =>
      rw [if_neg (fun z => by rw [hw.mp z] at hb; cases hb)]
    | false =>
      have hm := hw.mpr hb
      rw [if_pos hm, ← stO_snoc]
      have h2 := wrong_walk o (l := l) (ns := ns) r (p ++ [n]) (by rw [List.append_assoc]; exact e) (prefL_snoc hp hm)
      rw [List.length_append] at h2
      exact h2
theorem wrong_pref {t : Tb} (o : TbOk t) {l : List (Str × Nat)} {ns : List Str} : ∀ (r p : List Str), p ++ r = ns → p ∈ prefO t l p.length → (List.range' p.length r.length).find? (wrongN t l ns) = none → ns ∈ prefO t l ns.length
  | [], p, e, hp, _ => by
    rw [List.append_nil] at e
    subst e
    exact hp
  | n :: r, p, e, hp, h => by
    have hw := wrong_ready (r := r) (n := n) o hp
    rw [e] at hw
    rw [List.length_cons, List.range'_succ, List.find?_cons] at h
    cases hb : wrongN t l ns p.length with
    | true => rw [hb] at h; cases h
    | false =>
      rw [hb] at h
      refine wrong_pref o r (p ++ [n]) (by rw [List.append_assoc]; exact e) (prefL_snoc hp (hw.mpr hb)) ?_
      rw [List.length_append]
      exact h
theorem wrong_eq {t : Tb} (o : TbOk t) {l : List (Str × Nat)} {ns : List Str} : wrongD t l ns = optI (checkO t l ns true) := by
  have h1 := wrong_walk o (l := l) (ns := ns) ns [] rfl (List.mem_singleton.mpr rfl)
  have h2 := wrong_pref o (l := l) (ns := ns) ns [] rfl (List.mem_singleton.mpr rfl)
  have h1 : walkO t l 0 ns (st0 t) = match (List.range' 0 ns.length).find? (wrongN t l ns) with
    | some i => .inr i
    | none => .inl (stO t l ns) := h1
  have h2 : (List.range' 0 ns.length).find? (wrongN t l ns) = none → ns ∈ prefO t l ns.length := h2
  unfold wrongD checkO
  rw [List.range_eq_range', h1]
  cases e : (List.range' 0 ns.length).find? (wrongN t l ns) with
  | some i => rfl
  | none =>
    obtain ⟨v, h3, _⟩ := prefO_ok o _ _ (h2 e)
    have hs := v.sum
    show (if ns.length < total t then D.int (ns.length : Nat) else .non) = optI (if (true && !decide ((stO t l ns).1.sum = total t)) = true then some ns.length else none)
    by_cases hlt : ns.length < total t
    · rw [if_pos hlt, if_pos (by simp; omega)]; rfl
    · rw [if_neg hlt, if_neg (by simp; omega)]; rfl
end LK
set_option Elab.async false
set_option linter.all false
set_option maxRecDepth 100000
set_option maxHeartbeats 4000000
namespace DL
open PySem PySem.Spec PyProof.Rows L2
theorem Reps.rev {K : PySem.W.Frag} {G : Hp} : ∀ {ds : List D} {vs : List V}, Reps K G ds vs → Reps K G ds.reverse vs.reverse
  | [], _, h => by
    rw [show _ = [] from h]; exact rfl
  | d :: ds, _, ⟨v, r, e, h1, h2⟩ => by
    rw [e, List.reverse_cons, List.reverse_cons]
    exact (Reps.rev h2).append (Reps.one h1)
section
variable {X : Cx} {e : Expr} {δ : DEnv} {I : Iv X.K} {p1 p2 p3 pos : Pos} {k : Nat} {ds : List D}
/-- xs[::-1] -/
theorem pv_revL (h : PV X I e δ (.lst ds)) : PV X I (.Subscript e (.Slice none none (some (.UnaryOp .USub (.Constant (.int 1) k p1) p2)) p3) pos) δ (.lst ds.reverse) := fun W R P pp σ G H Q hE s hI qx q =>
  PE.wp (pe_revL peC) (h W R (fun z I1 => z = .lst ds ∧ I1 = I) ⟨rfl, rfl⟩ σ G H _ hE s hI qx fun v d1 G1 H1 I1 s1 t1 h1 r1 ⟨ed, ei⟩ => by
    subst ed ei
    obtain ⟨a, vs, rfl, e2, e3⟩ := r1
    refine ⟨a, vs, rfl, SqL.of (t1 _ _ e2), fun p hp => ?_⟩
    have hg : G1 p = none := t1.free hp
    exact q (.ref p) (.lst ds.reverse) (upd G1 p (.lst vs.reverse)) _ _ (s1.trans (Evl.Ex.new hg)) (same_upd2 t1) (h1.keep hp t1) ⟨p, _, rfl, upd_same, (e3.rev).mono (Evl.Ex.new hg)⟩ pp)
end
end DL
set_option Elab.async false
set_option linter.all false
set_option maxRecDepth 100000
set_option maxHeartbeats 4000000
namespace DL
open PySem PySem.Spec PyProof.Rows L2
/-! ### try: .. except A as a: .. except B as b: .. -/
abbrev TsA := Addr → Value → Option Addr → TS
/-- the ends of a suite behind `as`: its name is gone -/
def offD (D : Ends) (i : Nat) : Ends := ⟨fun z g => D.nx (z.set i none) g, D.rt, fun z g => D.bk (z.set i none) g, fun z g => D.ct (z.set i none) g⟩
def wAsM (K : PySem.W.Frag) (Wo : WX) (D : Ends) : List (Value × Nat × TsA) → WX
  | [] => Wo
  | q :: r => fun C dd z g => ∃ b, PySem.W.exmOne K C q.1 = some b ∧ (b = true → ∀ p, g p = none → q.2.2 p C dd (offD D q.2.1) (z.set q.2.1 (some (.ref p))) g) ∧ (b = false → wAsM K Wo D r C dd z g)
/-- one clause -/
structure AsC (X : Cx) (hd : ExceptHandler) (q : Value × Nat × TsA) : Prop where
  e : ∃ (x n : Str) (b0 : Stmt) (su : List Stmt) (p1 p2 : Pos), hd = .ExceptHandler (some (.Name x p1)) (some n) (b0 :: su) p2 ∧ Names X x q.1 ∧ X.N[q.2.1]? = some n ∧ X.env.kindOf n = some .local ∧
    ∀ (p : Addr) (o : Obj) (C : Value) (dd : Option Addr) (pn : List (Addr × Obj)), Zc C dd o → (∃ fv, o.data = .fields fv) → PSs (X.suite p ((p, o) :: pn)) (b0 :: su) (q.2.2 p C dd)
inductive AsAll (X : Cx) : List ExceptHandler → List (Value × Nat × TsA) → Prop
  | nil : AsAll X [] []
  | cons {h : ExceptHandler} {q : Value × Nat × TsA} {hs : List ExceptHandler} {l : List (Value × Nat × TsA)} : AsC X h q → AsAll X hs l → AsAll X (h :: hs) (q :: l)
section
variable {X : Cx} {sts : List Stmt} {h0 : ExceptHandler} {hds : List ExceptHandler} {l : List (Value × Nat × TsA)} {pos : Pos} {tb : WX → TS} {Wo : WX}
theorem ps_try_asM (st : X.stack = X.env :: X.outer) (fr : X.env.frame = some X.env.locals) (nd : X.N.Nodup) (tk : Takes X Wo)
    (body : ∀ (V : WX) (pn : List (Addr × Obj)) (xe : Value → Shared → Prop), Takes (X.tr pn xe) V → PassesOwn (model X.prog X.w) X.A X.env xe → PSs (X.tr pn xe) sts (tb V))
    (all : AsAll X (h0 :: hds) l) : PS X (.Try sts (h0 :: hds) [] [] pos) (fun D z g => tb (wAsM X.K Wo D l) D z g) := by
  refine ⟨fun ps s z g D I hw => ?_⟩
  have ok := I.ok
  have fr2 : X.A.frames = some (X.env :: X.outer) := ok.frames.trans (congrArg some st)
  refine wpAny_Try_except (wpAny_mono (PSs.run (body (wAsM X.K Wo D l) (X.pn ++ ps) (fun e s1 => wpAny (model X.prog X.w) X.A (noteFrame e X.env) (fun _ s2 => wpAny (model X.prog X.w) X.A (setFlight e none) (fun _ s3 => wpAny (model X.prog X.w) X.A (handleBy e X.env (h0 :: hds)) (SP X ps D) X.xe s3) X.xe s2) X.xe s1) (fun u s1 xx => ?_) PassesOwn.looking) [] s z g D (I.toTry _) hw) (fun f s1 hsp => ?_) (fun _ _ he => he))
  · obtain ⟨a, B, s0, ps9, z1, g1, C, dd, rfl, J0, nb, up, sky, na, os, ag, w1⟩ := xx
    have J : Inv X ps z1 g1 s0 := J0.ofTry ok
    rw [st] at sky
    show wpAny (model X.prog X.w) X.A (noteFrame (.ref a) X.env) _ _ _
    refine Sky.land Zc.steady fr2 fr sky fun h3 fl up3 => ?_
    have J3 : Inv X ps z1 g1 { s1 with heap := h3 } := J.landed nb fl.1 (up.trans up3) os ag
    obtain ⟨o3, fv3, x3, y3, d3⟩ := fl.there
    have aoff : a ∉ frs (X.env :: X.outer) := fun hm => by
      obtain ⟨_, o', e', hnf⟩ := fl.2.2.1.mem hm
      rw [x3] at e'
      cases e'
      exact hnf _ d3
    have aL : a ≠ X.env.locals := fun e => aoff (List.mem_filterMap.mpr ⟨X.env, List.mem_cons_self, by rw [fr, e]⟩)
    have aF : a ∉ X.fs := fun hm => by
      obtain ⟨y, hy, e⟩ := List.mem_filterMap.mp hm
      exact aoff (List.mem_filterMap.mpr ⟨y, List.mem_cons_of_mem _ hy, e⟩)
    have S3 := J3.suite x3 d3 na aL aF
    have go : ∀ {hs : List ExceptHandler} {m : List (Value × Nat × TsA)}, AsAll X hs m → wAsM X.K Wo D m C dd z1 g1 → wpAny (model X.prog X.w) X.A (handleBy (.ref a) X.env hs) (SP X ps D) X.xe { s1 with heap := h3 } := fun {hs m} hk => by
      induction hk with
      | nil =>
        intro w2
        refine wpAny_handleBy_nil ?_
        obtain ⟨_, _, _, o4, fv4, T, oT, ts4, i1, i2, i3, i4, _⟩ := id fl
        unfold PySem.passOn
        refine wpAny_bind (wpAny_field i1 i3 i4 ?_)
        rw [if_neg (by simp : ¬ ((Value.ref T == Value.none) = true))]
        have off : wpAny (model X.prog X.w) X.A (setFlight (.ref a) X.env.frame) (fun _ s4 => wpAny (model X.prog X.w) X.A (throw (.ref a) : Sem Flow) (SP X ps D) X.xe s4) X.xe { s1 with heap := h3 } := by
          rw [fr]
          exact HandSPX.setFlight_upZ fl fun h4 k4 up4 => wpAny_throw (tk _ _ ⟨a, B, s0, ps, z1, g1, C, dd, rfl, J, nb, (up.trans up3).trans up4, .inr (.inr (by rw [st]; exact k4)), na, os, ag, w2⟩)
        first
          | exact wpAny_bind (wpAny_pure (wpAny_bind off))
          | exact wpAny_bind off
      | @cons hd q hs2 m2 hc _ ih =>
        intro w2
        obtain ⟨x, n, b0, su, p1, p2, rfl, nm, hi, hln, suite⟩ := hc.e
        obtain ⟨b, m1, yes, no⟩ := w2
        have looks : PySem.W.Looks (model X.prog X.w) h3 (typeOf (.ref a)) C := fun A Q E s k k2 => wpAny_typeOf_ref (k _ _ x3) (by rw [y3.1]; exact k2)
        have here := PySem.W.exm_one (M := model X.prog X.w) J3.kIn looks m1
        have test : ∀ {Q : Value → Shared → Prop} {E : Value → Shared → Prop}, Q q.1 { s1 with heap := h3 } → wpAny (model X.prog X.w) (X.A.mark (some (.ref a))) (eval (.Name x p1) X.env) Q E { s1 with heap := h3 } := fun k => by
          rcases nm with ⟨n1, n2, n3 | ⟨n3, n4, n5⟩⟩
          · exact ld_glob (X := X.suite a ((a, o3) :: (X.pn ++ ps))) S3 n1 n3 k n2
          · exact ld_blt (X := X.suite a ((a, o3) :: (X.pn ++ ps))) S3 n1 n3 n4 k n5 n2
        refine wpAny_handleBy_cons (codeAny_handlers_test (test (here.here ?_))) (fun e => by cases e)
        cases b with
        | false => exact ih (no rfl)
        | true =>
          refine codeAny_handlers_suite_as (HandSPX.lands_againZ fl fun h4 fl4 up4 => ?_)
          have J4 : Inv X ps z1 g1 { s1 with heap := h4 } := J.landed nb fl4.1 ((up.trans up3).trans up4) os ag
          obtain ⟨o4, fv4, x4, y4, d4⟩ := fl4.there
          refine store_ok (X := X.suite a ((a, o4) :: (X.pn ++ ps))) (v := .ref a) (J4.suite x4 d4 na aL aF) nd hi (.inl hln) rfl (fun s5 S5 => ?_) (.inr hln)
          refine wpAny_mono ((suite a o4 C dd (X.pn ++ ps) y4 ⟨_, d4⟩).run [] s5 _ g1 _ S5 (yes rfl a na)) (fun f s6 hsp => ?_) (fun _ _ e => False.elim e)
          have last : ∀ {z6 : L2.St} {g6 : Hp} {Q : Shared → Prop}, Inv (X.suite a ((a, o4) :: (X.pn ++ ps))) [] z6 g6 s6 → (∀ s7, Inv X ps (z6.set q.2.1 none) g6 s7 → Q s7) → wpAny (model X.prog X.w) X.A (do bindName X.env n .none; unbindBehindTheSuite X.env n p2) (fun _ s7 => Q s7) X.xe s6 := fun S6 k => gone_ok (S6.unsuite ok) nd hi hln k
          cases f with
          | ret u =>
            obtain ⟨v6, z6, g6, S6, r6, q6⟩ := hsp
            exact last S6 fun s7 J7 => ⟨v6, _, _, J7, r6, q6⟩
          | next =>
            obtain ⟨z6, g6, S6, q6⟩ := hsp
            exact last S6 fun s7 J7 => ⟨_, g6, J7, q6⟩
          | brk =>
            obtain ⟨z6, g6, S6, q6⟩ := hsp
            exact last S6 fun s7 J7 => ⟨_, g6, J7, q6⟩
          | cont =>
            obtain ⟨z6, g6, S6, q6⟩ := hsp
            exact last S6 fun s7 J7 => ⟨_, g6, J7, q6⟩
    exact go all w1
  · cases f with
    | ret u => exact match hsp with | ⟨v, z1, g1, J1, r, k⟩ => ⟨v, z1, g1, J1.ofTry ok, r, k⟩
    | next => exact match hsp with | ⟨z1, g1, J1, k⟩ => wpAny_execs_nil ⟨z1, g1, J1.ofTry ok, k⟩
    | brk => exact match hsp with | ⟨z1, g1, J1, k⟩ => ⟨z1, g1, J1.ofTry ok, k⟩
    | cont => exact match hsp with | ⟨z1, g1, J1, k⟩ => ⟨z1, g1, J1.ofTry ok, k⟩
end
/-- the clauses as they stand, with what they name -/
inductive ClsAll (X : Cx) : List ExceptHandler → List (Value × Nat × List Stmt) → Prop
  | nil : ClsAll X [] []
  | cons {x n : Str} {c : Value} {i : Nat} {b0 : Stmt} {su : List Stmt} {p1 p2 : Pos} {hs : List ExceptHandler} {m : List (Value × Nat × List Stmt)} (nm : Names X x c) (r : ClsAll X hs m) (hi : X.N[i]? = some n := by rfl) (hln : X.env.kindOf n = some .local := by rfl) : ClsAll X (.ExceptHandler (some (.Name x p1)) (some n) (b0 :: su) p2 :: hs) ((c, i, b0 :: su) :: m)
def CatX (X : Cx) (κ : Ko X.K) : List (Value × Nat × List Stmt) → Addr → List (Str × D) → DEnv → Iv X.K → Prop
  | [], C, fs, δ, I => κ.ex C fs δ I
  | q :: r, C, fs, δ, I => ∃ b, PySem.W.exmOne X.K (.ref C) q.1 = some b ∧ (b = true → ∀ (a dd : Addr) (oe : Obj) (pn : List (Addr × Obj)), Zc (.ref C) (some dd) oe → (∃ vs, oe.data = .fields vs) → SX (X.suite a ((a, oe) :: pn)) W0 q.2.2 (δ.set q.2.1 (some (.exc a C dd (fs.map (·.1)) (fs.map (·.2))))) I
        ⟨fun δ2 I2 => κ.nx (δ2.set q.2.1 none) I2, κ.rt, fun δ2 I2 => κ.bk (δ2.set q.2.1 none) I2, fun δ2 I2 => κ.ct (δ2.set q.2.1 none) I2, fun _ _ _ _ => False⟩) ∧ (b = false → CatX X κ r C fs δ I)
def tsA (X : Cx) (sts : List Stmt) : TsA := fun a cls d D σ H => ∀ (oe : Obj) (pn : List (Addr × Obj)), Zc cls d oe → (∃ vs, oe.data = .fields vs) → wpB (X.suite a ((a, oe) :: pn)) sts D σ H
theorem ClsAll.as {X : Cx} : ∀ {hs : List ExceptHandler} {m : List (Value × Nat × List Stmt)}, ClsAll X hs m → AsAll X hs (m.map fun q => (q.1, q.2.1, tsA X q.2.2))
  | _, _, .nil => .nil
  | _, _, .cons nm r hi hln => .cons ⟨⟨_, _, _, _, _, _, rfl, nm, hi, hln, fun p o C dd pn hz hf => ⟨fun pins s σ H D J q => (q o pn hz hf).run pins s J⟩⟩⟩ r.as
section
variable {X : Cx} {δ : DEnv} {I : Iv X.K} {W : WX} {κ : Ko X.K} {body : List Stmt} {h0 : ExceptHandler} {hds : List ExceptHandler} {m : List (Value × Nat × List Stmt)} {pos : Pos}
/-- try: .. except A as a: .. except B as b: .. -/
theorem s_tryM (tk : Takes X W) (hN : X.N.Nodup) (hc : ClsAll X (h0 :: hds) m)
    (h : ∀ (V : WX) (pn : List (Addr × Obj)) (xe : Value → Shared → Prop), Takes (X.tr pn xe) V → PassesOwn (model X.prog X.w) X.A X.env xe → SX (X.tr pn xe) V body δ I { κ with ex := CatX X κ m })
    (hs : X.stack = X.env :: X.outer := by rfl) (hf : X.env.frame = some X.env.locals := by rfl) : S1 X W (.Try body (h0 :: hds) [] [] pos) δ I κ := fun σ G H E hE s hI k =>
  PS.wp (ps_try_asM (tb := fun V D σ H => ∀ pn xe, Takes (X.tr pn xe) V → PassesOwn (model X.prog X.w) X.A X.env xe → wpB (X.tr pn xe) body D σ H) (Wo := W) hs hf hN tk (fun V pn xe tk' po => ⟨fun pins s σ H D J q => (q pn xe tk' po).run pins s J⟩) hc.as) (by
    intro pn xe tk' po
    refine h _ pn xe tk' po σ G H E hE s hI ⟨k.nx, k.rt, k.bk, k.ct, ?_⟩
    intro C dd fs l δ' σ' G' H' I' s1 t1 h1 e1 rf hd
    obtain ⟨el, rl⟩ := frep_split rf
    have go : ∀ m : List (Value × Nat × List Stmt), CatX X κ m C fs δ' I' → wAsM X.K W E (m.map fun q => (q.1, q.2.1, tsA X q.2.2)) (.ref C) (some dd) σ' H' := by
      intro m
      induction m with
      | nil => exact fun p => k.ex C dd fs l δ' σ' G' H' I' s1 t1 h1 e1 rf hd p
      | cons q r ih =>
        rintro ⟨b, hb, yes, no⟩
        refine ⟨b, hb, fun e a ha oe pn hz hf => ?_, fun e => ih (no e)⟩
        refine yes e a dd oe pn hz hf _ G' H' _ (EnvR.set (v := .ref a) e1 ⟨rfl, l.map (·.2), by rw [← el]; exact hd, rl⟩) t1 h1 ⟨fun δ5 σ5 G5 H5 I5 s5 t5 h5 r5 p5 => k.nx _ _ G5 H5 I5 (s1.trans s5) t5 h5 (r5.drop none) p5, k.rt.mono s1, fun δ5 σ5 G5 H5 I5 s5 t5 h5 r5 p5 => k.bk _ _ G5 H5 I5 (s1.trans s5) t5 h5 (r5.drop none) p5, fun δ5 σ5 G5 H5 I5 s5 t5 h5 r5 p5 => k.ct _ _ G5 H5 I5 (s1.trans s5) t5 h5 (r5.drop none) p5, ?_⟩
        intro _ _ _ _ _ _ _ _ _ _ _ _ _ _ _ z
        exact z.elim
    exact go m)
end
end DL
set_option Elab.async false
set_option linter.all false
set_option maxRecDepth 100000
set_option maxHeartbeats 1000000
namespace LK
open PySem PySem.Spec PyProof.Rows L2 DL
def sWrong {K : PySem.W.Frag} : Spec K := fun I ds PP _ => ∃ (t : Tb) (l : List (Str × Nat)) (ns : List Str), ds = [tD t, .lst (ns.map D.str), .lst (l.map pairD)] ∧ TbOk t ∧ (∀ g ∈ l, PyData.strOk g.1 = true) ∧ l.length ≤ 1000 ∧ (∀ n ∈ ns, PyData.strOk n = true) ∧ ns.length ≤ 1000 ∧ PP (wrongD (sortW t) l ns) I
theorem range_split {n i : Nat} {p r : List Nat} (e : List.range n = p ++ i :: r) : p = List.range i ∧ i < n := by
  have h1 : i = p.length := by
    have : (List.range n)[p.length]? = some i := by rw [e]; simp
    rw [List.getElem?_range (by have := congrArg List.length e; simp at this; omega)] at this
    exact (Option.some.inj this).symm
  have h2 : p.length < n := by have := congrArg List.length e; simp at this; omega
  refine ⟨?_, by omega⟩
  have : (List.range n).take i = p := by rw [e, h1]; simp
  rw [← this, List.take_range]
  congr 1; omega
theorem getG_no {t : Tb} {n : Str} (h : n ∉ t.map (·.1)) : getG (t.map fun x => ((.inr x.1 : Key), D.lst (x.2.map wr4))) (.inr n) = none := by
  induction t with
  | nil => rfl
  | cons p r ih =>
    have h1 : n ≠ p.1 := fun e => h (by rw [e]; simp)
    have h2 : n ∉ r.map (·.1) := fun z => h (List.mem_cons_of_mem _ z)
    have h3 := ih h2
    unfold getG at h3 ⊢
    rw [List.map_cons, List.find?_cons]
    have e : decide (((.inr p.1 : Key)) = .inr n) = false := decide_eq_false fun z => h1 (Sum.inr.inj z).symm
    rw [e]
    exact h3
section
variable {P : Program} {w : World} {K : PySem.W.Frag} {mg : Str → Option Value} {base : Heap}
theorem D_wrong (E : Env P w K mg base) : Def P w K mg base "_law_wrong" 1 ["_law_t", "_law_names", "_law_held"] [] sWrong := mk_f_Lwrong E fun fd F => by
  refine fn_d F sc_f_Lwrong (fun I ds P R h => by obtain ⟨t, l, ns, rfl, _⟩ := h; rfl) fun cdv A outer s H EE hr tk po I ds Q R h => ?_
  obtain ⟨t, l, ns, rfl, o, hlo, hll, hno, hnl, q⟩ := h
  have nd := sc_f_Lwrong.nd
  have hu := hr.units
  have hu1 := hr.u1
  have hu65 := hr.u65
  have o' := o.sort
  have hts : total (sortW t) = total t := total_sort
  have hm6 := o.m
  have hsub : ∀ y ∈ sortW t, y ∈ t := fun y hy => (sortW_perm t).mem_iff.mp hy
  have hget : ∀ n, (getG (t.map fun x => ((.inr x.1 : Key), D.lst (x.2.map wr4))) (.inr n)).getD (.lst []) = .lst (((rowOf (sortW t) n).getD []).map wr4) := fun n => by
    by_cases h : n ∈ nmT (sortW t)
    · obtain ⟨p, hp, rfl⟩ := List.mem_map.mp h
      rw [t_get o.nd (hsub p hp), rowOf_some o'.nd hp]; rfl
    · have h2 : n ∉ t.map (·.1) := fun z => h (((sortW_perm t).map (·.1)).mem_iff.mpr z)
      rw [getG_no h2, rowOf_no h]; rfl
  refine s_cons (s_forT (xs := List.range ns.length) (g := fun i : Nat => D.int i) po (vi_range1 (n := (ns.length : Int)) E.b_range (PV.is (pv_len E.b_len (pv_v (d := .lst (ns.map D.str)) 1) trivial) (by rw [List.length_map])) (by omega) (by omega)) (fun p δ' I' => I' = I ∧ (∀ j ∈ p, wrongN (sortW t) l ns j = false) ∧ ∃ o3 o4, δ' = [some (tD t), some (.lst (ns.map D.str)), some (.lst (l.map pairD)), o3, o4, none]) ⟨rfl, (fun j hj => nomatch hj), none, none, rfl⟩ ?_ ?_)
  · rintro p i r δ' I' e ⟨rfl, hw, o3, o4, rfl⟩
    obtain ⟨ep, hi⟩ := range_split e
    refine ⟨_, [3], bind_name 3, ?_⟩
    obtain ⟨n, hn⟩ : ∃ n, ns[i]? = some n := ⟨_, List.getElem?_eq_getElem hi⟩
    have hpv : ∀ {X : Cx} {J : Iv X.K} {e1 e2 : Expr} {δ : DEnv} {ps : Pos} (hs : PlainIx e2), PV X J e1 δ (.lst (ns.map D.str)) → PV X J e2 δ (.int (i : Nat)) → PV X J (.Subscript e1 e2 ps) δ (.str n) := fun hs h1 h2 => pv_ix ix_list h1 h2 (p2_ixL (atI_m hn)) hs
    have e2 : ns.getD i "" = n := by rw [List.getD_eq_getElem?_getD, hn]; rfl
    have hnok : PyData.strOk n = true := hno n (List.mem_of_getElem? hn)
    refine s_cons (s_setP (d := .str (lastO (ns.take i))) 4 (pv_if (k := decide ((0 : Int) < i)) (DL.pt_cmp op_gt (pv_v (d := .int i) 3) pv_int p2_gt) (fun h => ?_) fun h => ?_) ?_)
    · have h0 : 0 < i := by have := of_decide_eq_true h; omega
      have hl : (ns.take i).getLast? = ns[i - 1]? := by
        rw [List.getLast?_eq_getElem?, List.length_take, Nat.min_eq_left (by omega), List.getElem?_take_of_lt (by omega)]
      have h1 : ns[i - 1]? = some (lastO (ns.take i)) := by
        unfold lastO
        rw [hl, List.getElem?_eq_getElem (by omega)]; rfl
      exact pv_ix ix_list (pv_v (d := .lst (ns.map D.str)) 1) (PV.is (pv_op op_sub (pv_v (d := .int i) 3) pv_int p2_sub) (z := .int ((i - 1 : Nat) : Int)) (by rw [Int.natCast_sub h0]; rfl)) (p2_ixL (atI_m h1))
    · have h0 : i = 0 := by have := of_decide_eq_false h; omega
      subst h0
      exact pv_str
    have hct : ((ns.take (i + 1)).count n : Nat) = (ns.take i).count n + 1 := by
      rw [List.take_succ_eq_append_getElem hi, List.count_append]
      have : ns[i] = n := by rw [List.getElem?_eq_getElem hi] at hn; exact Option.some.inj hn
      rw [this]; simp
    have hw2 : wrongN (sortW t) l ns i = (decide (wrongN.lenN0 (sortW t) n < (ns.take i).count n + 1) || (!(decide (lastO (ns.take i) = "") || decide (lastO (ns.take i) = n)) && decide ((lastO (ns.take i), (ns.take i).count (lastO (ns.take i)) - 1) ∈ l))) := by
      unfold wrongN
      simp only [e2]
    have hcont : wrongN (sortW t) l ns i = false → ∀ j ∈ p ++ [i], wrongN (sortW t) l ns j = false := fun hb j hj => by
      rcases List.mem_append.mp hj with z | z
      · exact hw j z
      · rw [List.mem_singleton.mp z]; exact hb
    have hret : wrongN (sortW t) l ns i = true → wrongD (sortW t) l ns = .int (i : Nat) := fun hb => by
      have e3 : (List.range ns.length).find? (wrongN (sortW t) l ns) = some i := List.find?_range_eq_some.mpr ⟨hb, List.mem_range.mpr hi, fun j hj => by rw [hw j (by rw [ep]; exact List.mem_range.mpr hj)]; rfl⟩
      unfold wrongD
      rw [e3]
    refine s_cons (s_ifP (PVT.is (DL.pt_cmp op_gt (pv_lcountK (PV.is (pv_slL (pv_w (d := .lst (ns.map D.str)) 1 rfl) vo_none (vo_some (pv_op op_add (pv_w (d := .int i) 3 rfl) pv_int p2_add))) (z := .lst ((ns.take (i + 1)).map D.str)) ?_) (hpv (fun _ _ => rfl) (pv_w (d := .lst (ns.map D.str)) 1 rfl) (pv_w (d := .int i) 3 rfl))) (pv_len E.b_len (pv_dget2 hu1 (.inl rfl) (pv_w (d := tD t) 0 rfl) (hpv (fun _ _ => rfl) (pv_w (d := .lst (ns.map D.str)) 1 rfl) (pv_w (d := .int i) 3 rfl)) (pv_lst va_nil) rfl (hget n)) trivial) p2_gt) (c := decide (wrongN.lenN0 (sortW t) n < (ns.take i).count n + 1)) ?_) (fun hb => ?_) fun hb => s_nil ?_)
    · rw [show ((i : Int) + 1) = ((i + 1 : Nat) : Int) from rfl, cut_take, List.map_take]
    · rw [hct, List.length_map]
      exact decide_eq_decide.mpr (by unfold wrongN.lenN0; omega)
    · rw [hret (by rw [hw2, hb]; rfl)] at q
      exact s_one (s_retP (pv_w (d := .int i) 3 rfl) q)
    have hlc : lastO (ns.take i) ≠ "" → 1 ≤ (ns.take i).count (lastO (ns.take i)) := fun h => by
      cases hx : (ns.take i).getLast? with
      | none => exact absurd (by unfold lastO; rw [hx]; rfl) h
      | some x =>
        have e5 : lastO (ns.take i) = x := by unfold lastO; rw [hx]; rfl
        rw [e5]
        exact List.count_pos_iff.mpr (List.mem_of_getLast? hx)
    have hls : lastO (ns.take i) ≠ "" → PyData.strOk (lastO (ns.take i)) = true := fun h => hno _ (List.mem_of_mem_take (List.count_pos_iff.mp (hlc h)))
    have hk2 : ∀ d ∈ l.map pairD, OkD 64 d := OkD.map fun g hg => (okD_pair (hlo g hg)).mono (by decide)
    generalize hlast : lastO (ns.take i) = la at *
    have he2 : ((l.map pairD).any fun y => eqD y (.tup [.str la, .int ((ns.take i).count la - 1 : Nat)])) = decide ((la, (ns.take i).count la - 1) ∈ l) := (inj_pair.any (la, (ns.take i).count la - 1) l).trans (by congr)
    have hne : (!(decide (la = "") || decide (la = n))) = true → la ≠ "" := fun h z => by rw [z] at h; cases h
    refine s_one (s_ifP (b := !(decide (la = "") || decide (la = n)) && decide ((la, (ns.take i).count la - 1) ∈ l)) (ptw (ww_and (PVT.is (pt_nin hu65 (pv_w (d := .str la) 4 rfl) (pv_tup (va_cons pv_str (va_cons (hpv (fun _ _ => rfl) (pv_w (d := .lst (ns.map D.str)) 1 rfl) (pv_w (d := .int i) 3 rfl)) va_nil))) rfl) ?_) fun h => ww_and1 (PVT.is (pt_in hu65 (PV.is (pv_tup (va_cons (pv_w (d := .str la) 4 rfl) (va_cons (pv_op op_sub (pv_lcountK (PV.is (pv_slL (pv_w (d := .lst (ns.map D.str)) 1 rfl) vo_none (vo_some (pv_w (d := .int i) 3 rfl))) (z := .lst ((ns.take i).map D.str)) ?_) (pv_w (d := .str la) 4 rfl)) pv_int p2_sub) va_nil))) (z := .tup [.str la, .int ((ns.take i).count la - 1 : Nat)]) ?_) (pv_w (d := .lst (l.map pairD)) 2 rfl) ⟨(OkD.t2 (OkD.str (hls (hne h))) OkD.int).mono (by decide : 1 ≤ 64), hk2⟩) he2))) (fun hb2 => ?_) fun hb2 => s_nil ?_)
    · simp [strIn]
    · rw [cut_take, List.map_take]
    · rw [Int.natCast_sub (hlc (hne h))]; rfl
    · rw [hret (by rw [hw2, hb2]; simp)] at q
      exact s_one (s_retP (pv_w (d := .int i) 3 rfl) q)
    · exact ⟨rfl, hcont (by rw [hw2, hb, hb2]; rfl), _, _, rfl⟩
  · rintro δ' I' ⟨rfl, hw, o3, o4, rfl⟩
    have e3 : (List.range ns.length).find? (wrongN (sortW t) l ns) = none := List.find?_eq_none.mpr fun j hj => by rw [hw j hj]; exact Bool.false_ne_true
    unfold wrongD at q
    rw [e3] at q
    have hsum : ((t.map fun p => (p.2.length : Int)).sum) = (total (sortW t) : Nat) := by
      have := sum_nat (t.map fun p => p.2.length)
      rw [List.map_map] at this
      rw [hts]
      unfold total
      rw [← this]; rfl
    refine s_one (s_retP (pv_if (k := decide (ns.length < total (sortW t))) (PVT.is (DL.pt_cmp op_lt (pv_len E.b_len (pv_w (d := .lst (ns.map D.str)) 1 rfl) trivial) (PV.is (pv_cb (cr_sum rfl) E.b_sum (va_cons (PV.is (pv_lcTM (xs := t) (g := fun p => D.str p.1) (fun p => .int p.2.length) [("_law_name", 5)] (fun p => [some (tD t), some (.lst (ns.map D.str)), some (.lst (l.map pairD)), o3, o4, some (.str p.1)]) (vi_dicT (pv_w (d := tD t) 0 rfl)) (by omega) (fun p s H C cl fp => bind_name 5) fun p hp J s H C cl fp => PV.is (pv_len E.b_len (pv_dget hu1 (.inl rfl) (pv_w (d := tD t) 0 rfl) (pv_w 5 rfl) rfl (t_get o.nd hp)) trivial) (by rw [List.length_map])) (z := .lst ((t.map fun p => (p.2.length : Int)).map D.int)) (by rw [List.map_map]; rfl)) va_nil) pn_sum) (congrArg D.int hsum)) p2_lt) ?_) (fun h => ?_) fun h => ?_) q)
    · rw [List.length_map]
      exact decide_eq_decide.mpr (by omega)
    · rw [if_pos (of_decide_eq_true h)]
      exact PV.is (pv_len E.b_len (pv_w (d := .lst (ns.map D.str)) 1 rfl) trivial) (by rw [List.length_map])
    · rw [if_neg (of_decide_eq_false h)]
      exact pv_non
end
end LK
set_option Elab.async false
set_option linter.all false
set_option maxRecDepth 100000
set_option maxHeartbeats 1000000
namespace DL
open PySem PySem.Spec PyProof.Rows L2
theorem EvX.tub {X : Cx} {W : WX} {R : Rx X.K} {P : D → Iv X.K → Prop} {I : Iv X.K} {e : Expr} {δ : DEnv} (h : EvX X W R e δ I fun d I1 => ∃ ds, d = .tub ds ∧ P (.tup ds) I1) : EvX X W R e δ I P := fun σ G H Q hE s hI qx q => h σ G H Q hE s hI qx fun v d G' H' I' s1 s2 h1 r ⟨ds, ed, pp⟩ => by
  subst ed
  exact q v (.tup ds) G' H' I' s1 s2 h1 (rep_tub r) pp
end DL
namespace LK
open PySem PySem.Spec PyProof.Rows L2 DL
theorem sum_all {α : Type} {f g : α → Nat} : ∀ {t : List α}, (∀ p ∈ t, f p ≤ g p) → (t.map f).sum = (t.map g).sum → ∀ p ∈ t, f p = g p
  | [], _, _, _, h => nomatch h
  | q :: r, hle, e, p, hp => by
    simp only [List.map_cons, List.sum_cons] at e
    have hr : (r.map f).sum ≤ (r.map g).sum := by
      have : ∀ r : List α, (∀ p ∈ r, f p ≤ g p) → (r.map f).sum ≤ (r.map g).sum := fun r => by
        induction r with
        | nil => intro _; exact Nat.le_refl _
        | cons a r ih =>
          intro h
          simp only [List.map_cons, List.sum_cons]
          exact Nat.add_le_add (h a (by simp)) (ih fun p hp => h p (by simp [hp]))
      exact this r fun p hp => hle p (by simp [hp])
    have hq := hle q (by simp)
    rcases List.mem_cons.mp hp with rfl | h
    · omega
    · exact sum_all (fun p hp => hle p (by simp [hp])) (by omega) p h
theorem whole_check {t : Tb} (o : TbOk t) {ns : List Str} (h : checkO t [] ns true = none) : Whole t ns := by
  have hf : (List.range ns.length).find? (wrongN t [] ns) = none ∧ ¬ ns.length < total t := by
    have h2 := wrong_eq o (l := []) (ns := ns)
    rw [h] at h2
    unfold wrongD at h2
    cases e : (List.range ns.length).find? (wrongN t [] ns) with
    | some i => rw [e] at h2; cases h2
    | none =>
      rw [e] at h2
      refine ⟨rfl, fun hlt => ?_⟩
      have h2 : (if ns.length < total t then D.int (ns.length : Nat) else .non) = .non := h2
      rw [if_pos hlt] at h2
      cases h2
  have hp := wrong_pref o (l := []) (ns := ns) ns [] rfl (List.mem_singleton.mpr rfl) (by rw [← hf.1, List.range_eq_range']; rfl)
  have hn := prefO_nm o _ _ hp
  obtain ⟨v, hs, _⟩ := prefO_ok o _ _ hp
  have e1 := stO_fst o (hs := []) ns hn
  have hle := v.sum
  refine ⟨hn, ?_⟩
  have hsum : ((t.map fun p => ns.count p.1)).sum = (t.map fun p => p.2.length).sum := by
    have : (stO t [] ns).1.sum = total t := by have := hf.2; omega
    rw [e1, List.map_map] at this
    exact this
  refine sum_all (fun p hp => ?_) hsum
  obtain ⟨i, hi⟩ := List.mem_iff_getElem?.mp hp
  have h3 := v.le i p hi
  rw [e1, cAt_map t ns.count (i := i) (n := p.1) (by rw [List.getElem?_map, hi]; rfl)] at h3
  exact h3
def gO (x : D) : Option (Str × Nat) → D
  | some q => pairD q
  | none => x
def oddL : List D := [.tup [.str "a", .int 9], .tup [.str "nn", .int 0], .non, .int 5, .tup [.str "a"], .lst [.str "a", .int 0], .tup [.str "a", .bl true], .tup [.str "a", .int (-1)], .tup [], .str "a"]
structure OddX (G : List (Str × Nat)) (x : D) : Prop where
  o : Odd G x
  k : okEq (.tup [.str "gap", x]) = true
  s : eqD x x = true
theorem odd_all {G : List (Str × Nat)} (h9 : ∀ g ∈ G, g.2 < 9) (hn : ∀ g ∈ G, g.1 ≠ "nn") : ∀ d ∈ oddL, OddX G d := by
  have ha : PyData.strOk "a" = true := by decide +kernel
  have hnn : PyData.strOk "nn" = true := by decide +kernel
  intro d hd
  unfold oddL at hd
  simp only [List.mem_cons, List.not_mem_nil, or_false] at hd
  rcases hd with rfl | rfl | rfl | rfl | rfl | rfl | rfl | rfl | rfl | rfl
  · exact ⟨.pr _ _ ha fun g hg z => by have := h9 g hg; omega, by decide +kernel, by simp [eqDs]⟩
  · exact ⟨.pr _ _ hnn fun g hg z => hn g hg z.1, by decide +kernel, by simp [eqDs]⟩
  · exact ⟨.non, by decide +kernel, rfl⟩
  · exact ⟨.int _, by decide +kernel, by simp⟩
  · exact ⟨.tup _ (by decide) ((OkD.tup (n := 1) (fun d hd => by rw [List.mem_singleton.mp hd]; exact .str ha)).mono (by decide)), by decide +kernel, by simp [eqDs]⟩
  · exact ⟨.lst _ ((OkD.lst (n := 1) (fun d hd => by
      simp only [List.mem_cons, List.not_mem_nil, or_false] at hd
      rcases hd with rfl | rfl
      · exact .str ha
      · exact .int)).mono (by decide)), by decide +kernel, by simp [eqDs]⟩
  · exact ⟨.bl _ _ ha, by decide +kernel, by simp [eqDs]⟩
  · exact ⟨.pr _ _ ha fun g hg z => by have := z.2; omega, by decide +kernel, by simp [eqDs]⟩
  · exact ⟨.tup _ (by decide) ((OkD.tup (n := 1) (ds := []) (fun d hd => absurd hd (by simp))).mono (by decide)), by decide +kernel, by simp [eqDs]⟩
  · exact ⟨.str _ ha, by decide +kernel, by simp⟩
theorem Odd.anyF {G : List (Str × Nat)} {x : D} (h : Odd G x) : ((G.map pairD).any fun y => eqD y x) = false ∨ ∃ s b, x = .tup [.str s, .bl b] := by
  have key : (∀ g : Str × Nat, g ∈ G → eqD (pairD g) x = false) → ((G.map pairD).any fun y => eqD y x) = false := fun k => by
    rw [List.any_eq_false]
    intro y hy
    obtain ⟨g, hg, rfl⟩ := List.mem_map.mp hy
    rw [k g hg]; exact Bool.false_ne_true
  cases h with
  | bl s b h => exact .inr ⟨s, b, rfl⟩
  | pr s i h k => exact .inl (Odd.notIn (.pr s i h k) rfl)
  | non => exact .inl (key fun g _ => rfl)
  | int i => exact .inl (key fun g _ => rfl)
  | str s h => exact .inl (key fun g _ => rfl)
  | lst ds h => exact .inl (key fun g _ => rfl)
  | ss s r h k => exact .inl (key fun g _ => by unfold pairD; simp [eqDs])
  | tup ds h k =>
    refine .inl (key fun g _ => ?_)
    unfold pairD
    rw [eqD_tup]
    match ds, h with
    | [], _ => rfl
    | [a], _ => simp [eqDs]
    | [a, b], h => exact absurd rfl h
    | a :: b :: c :: r, _ => simp [eqDs]
theorem gaps_mem {t : Tb} {g : Str × Nat} (h : g ∈ gapsT t) : ∃ p ∈ t, g.1 = p.1 ∧ g.2 < p.2.length := by
  obtain ⟨p, hp, hg⟩ := List.mem_flatMap.mp h
  unfold gapsR at hg
  obtain ⟨k, hk, rfl⟩ := List.mem_map.mp hg
  have := List.mem_range.mp (List.mem_filter.mp hk).1
  exact ⟨p, hp, rfl, by show k < _; omega⟩
theorem insS {ms : List Str} {j : Nat} {x : Str} : (ms.map D.str).take j ++ [D.str x] ++ (ms.map D.str).drop j = (ms.take j ++ [x] ++ ms.drop j).map D.str := by
  simp only [List.map_append, List.map_take, List.map_drop]; rfl
/-- what the first call tells -/
def toldZ (x : D) (os : List (Option (Str × Nat))) (d : D) : D := if none ∈ os then .tup [.str "gap", x] else d
end LK
set_option Elab.async false
set_option linter.all false
set_option maxRecDepth 100000
set_option maxHeartbeats 1000000
namespace LK
open PySem PySem.Spec PyProof.Rows L2 DL
section
variable {P : Program} {w : World} {K : PySem.W.Frag} {mg : Str → Option Value} {base : Heap}
abbrev LVL : Nat := 27
theorem ok_law (E : Env P w K mg base) (fd : FuncData) (F : FunD K "law" "law" (defArgs f_law) (defBody f_law) (defScope f_law) [] [] (He.ga K "law") fd) : FnOk P w K mg base (L2.CX P w) LVL (He.ga K "law") fd ["_law_script"] (spD K sLaw) := by
  refine fn_d F sc_f_law (fun I ds P R h => by obtain ⟨ns, rfl, _⟩ := h; rfl) fun cdv A outer s H EE hr tk po I ds Q R h => ?_
  obtain ⟨ns, rfl, hl, q⟩ := h
  have nd := sc_f_law.nd
  have hu := hr.units
  have hu65 := hr.u65
  have hr1 : Room 1 _ := hr.mono (by decide)
  have hr2 : Room 2 _ := hr.mono (by decide)
  have hr5 : Room 5 _ := hr.mono (by decide)
  have hr6 : Room 6 _ := hr.mono (by decide)
  have hr7 : Room 7 _ := hr.mono (by decide)
  have hr25 : Room 25 _ := hr.mono (by decide)
  refine s_cons (s_set 1 (ev_def tk (D_mix E) hr1 (ea_cons ((pv_v 0).ev (ea_cons (pv_int.ev (ea_nil ⟨ns, 16, rfl, hl, fun a b => ?_⟩)))))))
  refine s_cons (s_set 2 (ev_freezeD (ev_def tk (D_table E) hr5 (ea_cons ((pv_v 1).ev (ea_cons (pv_int.ev (ea_cons (pv_int.ev (ea_cons (pv_int.ev (ea_nil ⟨a, b, .r I .here, 4, 8, 2, rfl, rfl, by decide, by decide, by decide, by decide, by decide, by decide, fun t g p => ⟨p, _, _, rfl, rfl, ?_⟩⟩))))))))))))
  have o := g.ok (by decide)
  have o' := o.sort
  have ht8 : total t ≤ 8 := tab_tot g.tot
  have sm : Small (sortW t) := ⟨fun p hp => (g.row p ((sortW_perm t).mem_iff.mp hp)).2.2⟩
  have hts : total (sortW t) = total t := total_sort
  refine s_cons (s_setP 3 (pv_def (D_built E) hr6 (va_cons (pv_v (d := tD t) 2) va_nil) fun P pp => ⟨t, rfl, o, pp⟩) ?_)
  have hgl := gaps_len' o'
  have h9 : ∀ z ∈ gapsT (sortW t), z.2 < 9 := fun z hz => by
    obtain ⟨p, hp, _, h2⟩ := gaps_mem hz
    have := (g.row p ((sortW_perm t).mem_iff.mp hp)).2.2
    omega
  have hnn : ∀ z ∈ gapsT (sortW t), z.1 ≠ "nn" := fun z hz e => by
    obtain ⟨p, hp, h1, _⟩ := gaps_mem hz
    have h2 := g.sub.subset (List.mem_map_of_mem (f := (·.1)) ((sortW_perm t).mem_iff.mp hp))
    rw [← h1, e] at h2
    exact absurd h2 (by decide +kernel)
  have hodd := odd_all h9 hnn
  have hgk : ∀ d ∈ (gapsT (sortW t)).map pairD, OkD 64 d := OkD.map fun z hz => (okD_pair (o'.gapOk z hz)).mono (by decide)
  refine s_cons (s_setP 4 (pv_def (D_gapsof E) hr1 (va_cons (pv_v (d := tD t) 2) va_nil) fun P pp => ⟨t, rfl, o, pp⟩) ?_)
  refine s_cons (s_set 5 (ev_def tk (D_some E) hr2 (ea_cons ((pv_v 1).ev (ea_cons ((pv_v (d := .lst ((gapsT (sortW t)).map pairD)) 4).ev (ea_nil ⟨a, b, .r I .here, _, rfl, rfl, by rw [List.length_map]; omega, fun ys hs => ?_⟩)))))))
  obtain ⟨l, hls, rfl⟩ := List.sublist_map_iff.mp hs
  have hlg : ∀ z ∈ l, z ∈ gapsT (sortW t) := fun z hz => hls.subset hz
  have hlz : l.length ≤ 48 := Nat.le_trans hls.length_le hgl
  have hlo : ∀ z ∈ l, PyData.strOk z.1 = true := fun z hz => o'.gapOk z (hlg z hz)
  have hN := holdsN_sub o' hls
  refine s_cons (s_set 6 (ev_ct call_list_of E.b_list (ea_cons (EvX.tub (ev_def tk (D_begG E) hr2 (ea_cons ((pv_v 1).ev (ea_cons ((pv_v (d := tD t) 2).ev (ea_cons (ev_ix ix_list (PV.ev (pv_lst (va_cons (pv_lst va_nil) (va_cons (pv_v (d := .lst (l.map pairD)) 5) va_nil))) (ev_nextP (n := 2) tk (D_next E) hr1 (.r I .here) (pv_v 1) pv_int rfl (by decide) fun k k0 k1 => o2_ixL k0 k1 fun d hd => ?_)))))))))))))
  obtain ⟨lx, rfl, hx1, hx2⟩ : ∃ lx : List (Str × Nat), d = .lst (lx.map pairD) ∧ (∀ z ∈ lx, z ∈ gapsT (sortW t)) ∧ lx.length ≤ 48 := by
    simp only [List.mem_cons, List.not_mem_nil, or_false] at hd
    rcases hd with rfl | rfl
    · exact ⟨[], rfl, (fun z hz => nomatch hz), by decide⟩
    · exact ⟨l, rfl, hlg, hlz⟩
  refine ea_nil ⟨a, b, .r I .here, t, lx, rfl, rfl, o, hx1, by omega, fun ms hms => ⟨_, rfl, ea_nil (on_listM (.inr (.inr rfl)) fun u hu2 => ?_)⟩⟩
  have hmn := prefO_nm o' _ _ hms
  have hml : ms.length ≤ 8 := by
    obtain ⟨v, h1, _⟩ := prefO_ok o' _ _ hms
    have := v.sum
    omega
  have hmk : ∀ n ∈ ms, PyData.strOk n = true := fun n hn => isName_ok (o'.nm_ok (hmn n hn))
  refine s_cons (s_forE po (ei_range1 E.b_range (ev_nextP tk (D_next E) hr1 (.l (.r I .here) (iLst K u (ms.map D.str))) (pv_v 1) pv_int rfl (by decide) fun k k0 k1 => ⟨k, rfl, by omega, by omega, Nat, List.range k.toNat, (fun i => D.int (0 + (i : Nat))), (fun p δ' I' => ∃ (nss : List Str) (o7 : Option D), I' = (I.and (iDr K a b)).and (iLst K u (nss.map D.str)) ∧ (∀ n ∈ nss, PyData.strOk n = true) ∧ nss.length = ms.length + p.length ∧ δ' = [some (.lsf (ns.map D.int)), some (.adr a), some (tD t), some (cD K (sortW t)), some (.lst ((gapsT (sortW t)).map pairD)), some (.lst (l.map pairD)), some (.adr u), o7, none, none, none, none, none, none, none]), rfl, ⟨ms, none, rfl, hmk, rfl, rfl⟩, ?_, ?_⟩)))
  · rintro p i r δ' I' e ⟨nss, o7, rfl, hnk, hnl, rfl⟩
    refine ⟨_, [7], bind_name 7, ?_⟩
    have hpl : p.length < 2 := by have := congrArg List.length e; simp at this; omega
    refine s_one (s_insertE (.r (I.and (iDr K a b)) .here) (pv_v 6) rfl (by rw [List.length_map]; omega) (ev_nextP tk (D_next E) hr1 (.l (.r I .here) (iLst K u (nss.map D.str))) (pv_v 1) (pv_op op_add (pv_cb call_len_seq E.b_len (va_cons (pv_v 6) va_nil) (pn_lenM (.r (I.and (iDr K a b)) .here))) pv_int p2_add) rfl (by rw [List.length_map]; omega) fun z z0 z1 => ⟨z.toNat, by rw [show ((z.toNat : Nat) : Int) = z by omega], by rw [List.length_map] at z1; omega, ev_ix ix_list (PV.ev (pv_lst (va_cons pv_str (va_cons pv_str (va_cons pv_str (va_cons pv_str va_nil))))) (ev_nextP (n := 4) tk (D_next E) hr1 (.l (.r I .here) (iLst K u (nss.map D.str))) (pv_v 1) pv_int rfl (by decide) fun j j0 j1 => o2_ixL j0 j1 fun d hd => ?_))⟩))
    rw [List.length_map] at z1
    obtain ⟨x, rfl, hxk⟩ : ∃ x : Str, d = .str x ∧ PyData.strOk x = true := by
      simp only [List.mem_cons, List.not_mem_nil, or_false] at hd
      rcases hd with rfl | rfl | rfl | rfl <;> exact ⟨_, rfl, by decide +kernel⟩
    refine ⟨rfl, nss.take z.toNat ++ [x] ++ nss.drop z.toNat, _, ?_, fun n hn => ?_, ?_, rfl⟩
    · rw [insS]; rfl
    · rcases List.mem_append.mp hn with h | h
      · rcases List.mem_append.mp h with h | h
        · exact hnk n (List.mem_of_mem_take h)
        · rw [List.mem_singleton.mp h]; exact hxk
      · exact hnk n (List.mem_of_mem_drop h)
    · simp only [List.length_append, List.length_take, List.length_drop, List.length_cons, List.length_nil]
      omega
  rintro δ' I' ⟨nss, o7, rfl, hnk, hnl, rfl⟩
  have hnz : nss.length ≤ 10 := by rw [hnl, List.length_range]; omega
  refine sx_freezeL (j := 6) rfl ?_
  have eSt : ∀ {o8 o9 o10 o11 o12 o13 o14 : Option D} {d6 : D}, List.set [some (.lsf (ns.map D.int)), some (.adr a), some (tD t), some (cD K (sortW t)), some (.lst ((gapsT (sortW t)).map pairD)), some (.lst (l.map pairD)), some (.adr u), o7, o8, o9, o10, o11, o12, o13, o14] 6 (some d6) = [some (.lsf (ns.map D.int)), some (.adr a), some (tD t), some (cD K (sortW t)), some (.lst ((gapsT (sortW t)).map pairD)), some (.lst (l.map pairD)), some d6, o7, o8, o9, o10, o11, o12, o13, o14] := rfl
  refine s_cons (s_set 8 (ev_ct call_list_of E.b_list (ea_cons ((pv_v (d := .lst (l.map pairD)) 5).ev (ea_nil (on_listM (.inl rfl) fun v hv => ?_))))))
  refine s_cons (s_setP (d := wrongD (sortW t) l nss) 9 (pv_def (D_wrong E) hr1 (va_cons (pv_v (d := tD t) 2) (va_cons (pv_v (d := .lst (nss.map D.str)) 6) (va_cons (pv_v (d := .lst (l.map pairD)) 5) va_nil))) fun P pp => ⟨t, l, nss, rfl, o, hlo, by omega, hnk, by omega, pp⟩) ?_)
  refine s_cons (s_joint (fun δ' I' => ∃ (x : D) (os : List (Option (Str × Nat))) (o10 : Option D), (os = l.map some ∨ OddX (gapsT (sortW t)) x ∧ ∃ pre rest, os = pre.map some ++ none :: rest.map some ∧ pre ++ rest = l) ∧ I' = (I.and (iDr K a b)).and (iLst K v (os.map (gO x))) ∧ δ' = [some (.lsf (ns.map D.int)), some (.adr a), some (tD t), some (cD K (sortW t)), some (.lst ((gapsT (sortW t)).map pairD)), some (.lst (l.map pairD)), some (.lst (nss.map D.str)), o7, some (.adr v), some (wrongD (sortW t) l nss), o10, none, none, none, none]) (s_if (et_cmp op_eq (ev_nextP tk (D_next E) hr1 (.l (.r I .here) (iLst K v (l.map pairD))) (pv_v 1) pv_int rfl (by decide) fun k k0 k1 => pv_int.ev (p2_eq (b := decide (k = 0)) rfl rfl rfl (by simp) _ ⟨_, rfl, ?_⟩)))) ?_)
  · by_cases hk : k = 0
    · rw [if_pos (decide_eq_true hk)]
      refine s_cons (s_setP (d := .lst oddL) 10 (pv_lst (va_cons (pv_tup (va_cons pv_str (va_cons pv_int va_nil))) (va_cons (pv_tup (va_cons pv_str (va_cons pv_int va_nil))) (va_cons pv_non (va_cons pv_int (va_cons (pv_tup (va_cons pv_str va_nil)) (va_cons (pv_lst (va_cons pv_str (va_cons pv_int va_nil))) (va_cons (pv_tup (va_cons pv_str (va_cons pv_bl va_nil))) (va_cons (pv_tup (va_cons pv_str (va_cons (pv_neg pv_int) va_nil))) (va_cons (pv_tup va_nil) (va_cons pv_str va_nil))))))))))) ?_)
      refine s_one (s_insertE (.r (I.and (iDr K a b)) .here) (pv_v 8) rfl (by rw [List.length_map]; omega) (ev_nextP tk (D_next E) hr1 (.l (.r I .here) (iLst K v (l.map pairD))) (pv_v 1) (pv_op op_add (pv_cb call_len_seq E.b_len (va_cons (pv_v 8) va_nil) (pn_lenM (.r (I.and (iDr K a b)) .here))) pv_int p2_add) rfl (by rw [List.length_map]; omega) fun z z0 z1 => ⟨z.toNat, by rw [show ((z.toNat : Nat) : Int) = z by omega], by rw [List.length_map] at z1; omega, ev_ix ix_list (PV.ev (pv_v (d := .lst oddL) 10) (ev_nextP (n := 10) tk (D_next E) hr1 (.l (.r I .here) (iLst K v (l.map pairD))) (pv_v 1) pv_int rfl (by decide) fun j j0 j1 => o2_ixL j0 j1 fun d hd => ?_))⟩))
      refine ⟨rfl, d, (l.take z.toNat).map some ++ none :: (l.drop z.toNat).map some, _, .inr ⟨hodd d hd, _, _, rfl, List.take_append_drop _ _⟩, ?_, rfl⟩
      refine congrArg (fun y => (I.and (iDr K a b)).and (iLst K v y)) ?_
      simp only [List.map_append, List.map_cons, List.map_map, List.append_assoc, List.cons_append, List.nil_append, List.map_take, List.map_drop, gO, Function.comp_def]
    · rw [if_neg (by simpa using hk)]
      refine s_nil ⟨.non, l.map some, _, .inl rfl, ?_, rfl⟩
      refine congrArg (fun y => (I.and (iDr K a b)).and (iLst K v y)) ?_
      rw [List.map_map]; rfl
  rintro δ' I' ⟨x, os, o10, hos, rfl, rfl⟩
  refine sx_freezeL (j := 8) rfl ?_
  have hsm : ∀ z, some z ∈ os → z ∈ gapsT (sortW t) := fun z hz => by
    rcases hos with rfl | ⟨_, pre, rest, rfl, e⟩
    · obtain ⟨y, hy, e⟩ := List.mem_map.mp hz
      cases e; exact hlg _ hy
    · refine hlg _ ?_
      rw [← e]
      rcases List.mem_append.mp hz with h | h
      · obtain ⟨y, hy, e⟩ := List.mem_map.mp h
        cases e; exact List.mem_append_left _ hy
      · rcases List.mem_cons.mp h with h | h
        · cases h
        · obtain ⟨y, hy, e⟩ := List.mem_map.mp h
          cases e; exact List.mem_append_right _ hy
  have hox : none ∈ os → OddX (gapsT (sortW t)) x := fun hz => by
    rcases hos with rfl | ⟨h, _⟩
    · obtain ⟨y, _, e⟩ := List.mem_map.mp hz
      cases e
    · exact h
  refine s_cons (s_forT (xs := os.reverse) (g := gO x) po (PVI.is (vi_lst (pv_revL (pv_v (d := .lst (os.map (gO x))) 8))) (by rw [List.map_reverse])) (fun p δ' I' => I' = I.and (iDr K a b) ∧ ∃ o11, δ' = [some (.lsf (ns.map D.int)), some (.adr a), some (tD t), some (cD K (sortW t)), some (.lst ((gapsT (sortW t)).map pairD)), some (.lst (l.map pairD)), some (.lst (nss.map D.str)), o7, some (.lst (os.map (gO x))), some (toldZ x p (wrongD (sortW t) l nss)), o10, o11, none, none, none]) ⟨rfl, none, rfl⟩ ?_ ?_)
  · rintro p i r δ' I' e ⟨rfl, o11, rfl⟩
    refine ⟨_, [11], bind_name 11, ?_⟩
    have hi : i ∈ os := List.mem_reverse.mp (by rw [e]; simp)
    cases i with
    | some z =>
      have hz := hsm z hi
      have e3 : toldZ x (p ++ [some z]) (wrongD (sortW t) l nss) = toldZ x p (wrongD (sortW t) l nss) := by
        unfold toldZ
        simp
      rw [e3]
      refine s_one (s_ifF (ptw (ww_orF (PVT.is (pt_nin hu65 (pv_w (d := .tup [.str z.1, .int z.2]) 11 rfl) (pv_w (d := .lst ((gapsT (sortW t)).map pairD)) 4 rfl) ⟨(okD_pair (q := z) (o'.gapOk z hz)).mono (by decide), hgk⟩) ?_) (ww_or1 (pt_v (pv_cb call_isi E.b_isinstance (va_cons (pv_ix ix_tup (pv_w (d := .tup [.str z.1, .int z.2]) 11 rfl) pv_int (p2_ixT rfl)) (va_cons (pv_gty (n := "bool") E.b_bool) va_nil)) (pn_isiF (t := "int") rfl (by decide +kernel))))))) (s_nil ⟨rfl, _, rfl⟩))
      have := inj_pair.any z (gapsT (sortW t))
      rw [show (((gapsT (sortW t)).map pairD).any fun y => eqD y (.tup [.str z.1, .int z.2])) = decide (z ∈ gapsT (sortW t)) from this.trans (by congr), decide_eq_true hz]; rfl
    | none =>
      have hX := hox hi
      have e3 : toldZ x (p ++ [none]) (wrongD (sortW t) l nss) = .tup [.str "gap", x] := by
        unfold toldZ
        rw [if_pos (by simp)]
      rw [e3]
      refine s_one (s_ifP (b := true) ?_ (fun _ => ?_) fun h => nomatch h)
      rotate_left
      · refine s_one (s_setP 9 (pv_tup (va_cons pv_str (va_cons (pv_w (d := x) 11 rfl) va_nil))) ?_)
        exact ⟨rfl, _, rfl⟩
      cases hb : (((gapsT (sortW t)).map pairD).any fun y => eqD y x) with
      | false => exact PVT.is (ptw (ww_or (k := true) (l := false) (PVT.is (pt_nin (E := InC.data rfl) hu65 (pv_w (d := x) 11 rfl) (pv_w (d := .lst ((gapsT (sortW t)).map pairD)) 4 rfl) ⟨hX.o.ok, hgk⟩) (by rw [hb]; rfl)) (fun h => nomatch h))) rfl
      | true =>
        rcases hX.o.anyF with h | ⟨s, b, h⟩
        · rw [h] at hb; cases hb
        · exact ptw (ww_orF (PVT.is (pt_nin (E := InC.data rfl) hu65 (pv_w (d := x) 11 rfl) (pv_w (d := .lst ((gapsT (sortW t)).map pairD)) 4 rfl) ⟨hX.o.ok, hgk⟩) (by rw [hb]; rfl)) (ww_or1 (pt_v (pv_cb call_isi E.b_isinstance (va_cons (pv_ix ix_tup (pv_w (d := .tup [.str s, .bl b]) 11 (by rw [← h]; rfl)) pv_int (p2_ixT rfl)) (va_cons (pv_gty (n := "bool") E.b_bool) va_nil)) (pn_isiT (t := "bool") rfl)))))
  rintro δ' I' ⟨rfl, o11, rfl⟩
  have hre : toldZ x os.reverse (wrongD (sortW t) l nss) = toldZ x os (wrongD (sortW t) l nss) := by
    unfold toldZ; simp
  rw [hre]
  have hZ : okEq (toldZ x os (wrongD (sortW t) l nss)) = true ∧ eqD (toldZ x os (wrongD (sortW t) l nss)) (toldZ x os (wrongD (sortW t) l nss)) = true := by
    unfold toldZ
    split
    · rename_i h
      exact ⟨(hox h).k, by simp [eqDs, (hox h).s]⟩
    · rw [wrong_eq o']
      cases checkO (sortW t) l nss true with
      | none => exact ⟨by decide +kernel, rfl⟩
      | some i => exact ⟨rfl, by simp [optI]⟩
  refine s_cons (s_setP 12 pv_non ?_)
  refine s_consI (fun δ' I' => I' = I.and (iDr K a b) ∧ ∃ o13, δ' = [some (.lsf (ns.map D.int)), some (.adr a), some (tD t), some (cD K (sortW t)), some (.lst ((gapsT (sortW t)).map pairD)), some (.lst (l.map pairD)), some (.lst (nss.map D.str)), o7, some (.lst (os.map (gO x))), some (toldZ x os (wrongD (sortW t) l nss)), o10, o11, some (toldZ x os (wrongD (sortW t) l nss)), o13, none]) (s_tryM tk nd (.cons (namesG E.g_WrongGap) (i := 13) (.cons (namesG E.g_WrongOrder) (i := 13) .nil)) fun W' pn xe tk' po' => ?_) ?_
  · rcases hos with rfl | ⟨hX, pre, rest, rfl, e⟩
    · have e5 : (l.map some).map (gO x) = l.map pairD := by rw [List.map_map]; rfl
      rw [e5]
      have e6 : ∀ d, toldZ x (l.map some) d = d := fun d => if_neg (fun h => by obtain ⟨y, _, e⟩ := List.mem_map.mp h; cases e)
      rw [e6]
      refine s_one (s_expr (ev_defK tk' (D_onum E) hr25 (ea_cons ((pv_v (d := cD K (sortW t)) 3).ev (ea_cons ((pv_v (d := .lst (nss.map D.str)) 6).ev (ea_nil (ek_cons ((pv_v (d := .lst (l.map pairD)) 8).ev (ek_nil ⟨rfl, rfl, sortW t, l, _, nss, _, rfl, .inl rfl, .inl rfl, o', sm, hlg, by omega, by omega, ?_⟩))))))))))
      rw [hN, wrong_eq o']
      cases hc : checkO (sortW t) l nss true with
      | none => exact ⟨rfl, _, rfl⟩
      | some i =>
        refine ⟨false, E.xm_WrongOrder_WrongGap, (fun h => nomatch h), fun _ => ⟨true, E.xm_WrongOrder_WrongOrder, fun _ a dd oe pn zc hf => ?_, fun h => nomatch h⟩⟩
        refine s_one (s_setP 12 (pv_if (k := true) (pt_v (pv_cb (call_isX E.t_WrongOrder.xc zc hf) E.b_isinstance (va_cons (pv_v 13) (va_cons (pv_gref E.g_LineError) va_nil)) (pn_isX (cv := .ref _) (cu := .ref _) (fun G v r => r) (fun u r => r) E.ki_WrongOrder_LineError))) (fun _ => pv_xf E.t_WrongOrder.xf E.f_WrongOrder_index zc hf (pv_v 13) rfl) (fun h => nomatch h)) ?_)
        exact ⟨rfl, _, rfl⟩
    · have e5 : (pre.map some ++ none :: rest.map some).map (gO x) = pre.map pairD ++ x :: rest.map pairD := by
        simp only [List.map_append, List.map_cons, List.map_map]; rfl
      rw [e5]
      have e6 : ∀ d, toldZ x (pre.map some ++ none :: rest.map some) d = .tup [.str "gap", x] := fun d => if_pos (by simp)
      rw [e6]
      refine s_one (s_expr (ev_defK tk' (DK_onumX E) hr25 (ea_cons ((pv_v (d := cD K (sortW t)) 3).ev (ea_cons ((pv_v (d := .lst (nss.map D.str)) 6).ev (ea_nil (ek_cons ((pv_v (d := .lst (pre.map pairD ++ x :: rest.map pairD)) 8).ev (ek_nil ⟨rfl, rfl, sortW t, _, pre, x, rest.map pairD, rfl, o', (fun z hz => hlg z (by rw [← e]; exact List.mem_append_left _ hz)), hX.o, ?_⟩))))))))))
      refine ⟨true, E.xm_WrongGap_WrongGap, fun _ a dd oe pn zc hf => ?_, fun h => nomatch h⟩
      refine s_one (s_setP 12 (pv_tup (va_cons pv_str (va_cons (pv_xf E.t_WrongGap.xf E.f_WrongGap_gap zc hf (pv_v 13) rfl) va_nil))) ?_)
      exact ⟨rfl, _, rfl⟩
  rintro δ' I' ⟨rfl, o13, rfl⟩
  refine s_cons (s_setP 14 pv_non ?_)
  refine s_consI (fun δ' I' => I' = I.and (iDr K a b) ∧ ∃ o13, δ' = [some (.lsf (ns.map D.int)), some (.adr a), some (tD t), some (cD K (sortW t)), some (.lst ((gapsT (sortW t)).map pairD)), some (.lst (l.map pairD)), some (.lst (nss.map D.str)), o7, some (.lst (os.map (gO x))), some (toldZ x os (wrongD (sortW t) l nss)), o10, o11, some (toldZ x os (wrongD (sortW t) l nss)), o13, some (wrongD (sortW t) [] nss)]) (s_try (i := 13) tk nd (namesG E.g_WrongOrder) fun W' pn xe tk' po' => ?_) ?_
  · rw [wrong_eq o' (l := [])]
    cases hc : checkO (sortW t) [] nss true with
    | none =>
      exact s_one (s_expr (ev_def tk' (D_broken E) hr7 (ea_cons ((pv_v (d := cD K (sortW t)) 3).ev (ea_cons ((pv_v (d := .lst (nss.map D.str)) 6).ev (ea_nil ⟨sortW t, nss, _, rfl, .inl rfl, o', whole_check o' hc, by omega, rfl, _, rfl⟩)))))))
    | some i =>
      refine s_one (s_expr (ev_def tk' (D_brokenX E) hr7 (ea_cons ((pv_v (d := cD K (sortW t)) 3).ev (ea_cons ((pv_v (d := .lst (nss.map D.str)) 6).ev (ea_nil ⟨sortW t, nss, i, rfl, o', by omega, hc, ?_⟩)))))))
      refine ⟨true, E.xm_WrongOrder_WrongOrder, fun _ a dd oe pn zc hf => ?_, fun h => nomatch h⟩
      refine s_one (s_setP 14 (pv_xf E.t_WrongOrder.xf E.f_WrongOrder_index zc hf (pv_v 13) rfl) ?_)
      exact ⟨rfl, _, rfl⟩
  rintro δ' I' ⟨rfl, o13, rfl⟩
  have hW0 : okEq (wrongD (sortW t) [] nss) = true ∧ eqD (wrongD (sortW t) [] nss) (wrongD (sortW t) [] nss) = true := by
    rw [wrong_eq o']
    cases checkO (sortW t) [] nss true with
    | none => exact ⟨by decide +kernel, rfl⟩
    | some i => exact ⟨rfl, by simp [optI]⟩
  generalize toldZ x os (wrongD (sortW t) l nss) = Z at *
  refine s_one (s_retP (PV.is (pv_andB (k := true) (l := true) (PV.is (pv_eq (E := EqC.data) hu (pv_w (d := Z) 12 rfl) (pv_w (d := Z) 9 rfl) ⟨hZ.1, hZ.1⟩) (by rw [hZ.2])) (fun _ => pv_one (PV.is (pv_eq (E := EqC.data) hu (pv_w (d := wrongD (sortW t) [] nss) 14 rfl) (pv_def (D_wrong E) hr1 (va_cons (pv_w (d := tD t) 2 rfl) (va_cons (pv_w (d := .lst (nss.map D.str)) 6 rfl) (va_cons (PV.is (pv_lst va_nil) (z := .lst (([] : List (Str × Nat)).map pairD)) rfl) va_nil))) fun P pp => ⟨t, [], nss, rfl, o, (fun z hz => nomatch hz), by decide, hnk, by omega, pp⟩) ⟨hW0.1, hW0.1⟩) (by rw [hW0.2])))) rfl) (q _))
end
end LK
set_option Elab.async false
set_option linter.all false
set_option maxRecDepth 100000
set_option maxHeartbeats 0
namespace LK
open PySem PySem.Spec PyProof.Rows L2 DL
theorem facts {P : Program} {w : World} {K : PySem.W.Frag} {h : Heap} {mg : Str → Option Value} {f : Addr} (X : K.In h) (G : h.Ns mainGlobals mg) (hfa : mg ("law" : Str) = some (.ref f)) (c0 : SaysS fn gs [] ex w h K) :
    ∃ fd : FuncData, (∀ (s : Shared) (v : Value), BindsTo s fd ⟨[v], []⟩ [("_law_script", v)]) ∧ ∀ base : Heap, K.In base → base.Ns mainGlobals mg → FnOk P w K mg base (L2.CX P w) LVL f fd ["_law_script"] (spD K sLaw) := by
  have c := c0.p
  have EE : ∀ base, Env P w K mg base := fun base => ⟨c.more, ⟨h, X, G⟩, fun d hd => c.has hd, fun d hd => c.hasG hd, fun p hp => nomatch hp⟩
  obtain ⟨fd, F⟩ := c.has in_f_law
  have F : FunD K "law" "law" (defArgs f_law) (defBody f_law) (defScope f_law) [] [] (He.ga K "law") fd := F
  have e := hfa.symm.trans (EE h).g_law
  cases e
  have b := FunD.bindsA (ps := ["_law_script"]) F fun _ _ _ _ _ _ us hl => match us, hl with | [_], _ => rfl
  exact ⟨fd, fun s v => b s [v] rfl, fun base _ _ => ok_law (EE base) fd F⟩
end LK
open PySem PySem.W PySem.Calls PyProof.Rows
theorem PySem.Challenge.cw_linesharing_k16_orders_refused_holds : PySem.Challenge.rw_linesharing_k16_orders_refused.Holds := by
  w_on; o_law
  refine HandSHeadRun.head_any (r := OpenLaw.row PySem.Challenge.rw_linesharing_k16_orders_refused) (q := view (OpenLaw.row PySem.Challenge.rw_linesharing_k16_orders_refused).prog [51]) (H := LK.hk) (ob := LK.ob) (M := 30000) (loose := LK.loose) (d := HandSHeadRun.topDef (OpenLaw.row PySem.Challenge.rw_linesharing_k16_orders_refused).prog 51) (kwd := []) LK.ob_eq
    (by kernel_rfl) (fun s => by kernel_rfl) LK.run (by kernel_rfl) (by kernel_rfl) (by kernel_rfl) (by rfl) (by first | assumption | decide +kernel) (by decide +kernel) ⟨rfl, rfl, rfl, rfl, rfl, by decide +kernel⟩ ?hw ?hc
  case hw => w_witness2
  case hc =>
    refine LamX.walk_ofTsE (l := PySem.Challenge.rw_linesharing_k16_orders_refused) (n := 63) (k := LK.LVL) (x := "_law_script") (CX := fun w => L2.CX (PySem.Challenge.rw_linesharing_k16_orders_refused).prog w) rfl (by decide) (by kernel_rfl) ⟨rfl, by decide, by decide⟩ ?F ?E
    case F =>
      intro w mg fa h Y G hmg0
      obtain ⟨K, KX, c⟩ := Y
      have hmg : mg ("law" : PySem.Str) = some (.ref fa) := by
        have e : (HandSHeadRun.topDef (OpenLaw.row PySem.Challenge.rw_linesharing_k16_orders_refused).prog 51).name = ("law" : PySem.Str) := by kernel_rfl
        rw [← e]
        exact hmg0
      obtain ⟨fd, hb, hF⟩ := LK.facts (P := (PySem.Challenge.rw_linesharing_k16_orders_refused).prog) (w := w) KX G hmg c
      exact ⟨K, KX, fd, [], _, (fun p hp => nomatch hp), (fun p hp => nomatch hp), (fun p hp => nomatch hp), hb, fun H a ns hl hbits _ hS => DL.sp_law hl hS, fun base h1 h2 _ => hF base h1 h2⟩
    case E =>
      intro w H s e s' z
      exact DL.cx0 z
